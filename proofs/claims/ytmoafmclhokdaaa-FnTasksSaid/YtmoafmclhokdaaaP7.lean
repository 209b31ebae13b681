/- Plain laws: sums, texts of sets, fingers, parts. -/
import Derived.Test.YtmoafmclhokdaaaP6
import Derived.Test.YtmoafmclhokdaaaVd
namespace Vg.Try
open Go Vg
set_option linter.unusedVariables false
set_option linter.unusedSectionVars false
set_option linter.unusedSimpArgs false

theorem u32wrap (n : Int) : IntKind.u32.wrap n = n % 4294967296 := by
  simp [IntKind.wrap, IntKind.signed, IntKind.bits]

theorem xor64 {a b : Nat} (ha : a < 4294967296) (hb : b < 4294967296) : bits (fun _ => (· ^^^ ·)) .i64 (a : Int) (b : Int) = ((a ^^^ b : Nat) : Int) := by
  have hx : a ^^^ b < 2 ^ 32 := Nat.xor_lt_two_pow (by simpa using ha) (by simpa using hb)
  change IntKind.i64.wrap (((BitVec.ofInt 64 (a : Int) ^^^ BitVec.ofInt 64 (b : Int)).toNat : Nat) : Int) = _
  rw [BitVec.toNat_xor, BitVec.toNat_ofInt, BitVec.toNat_ofInt]
  have e1 : ((a : Int) % ((2 ^ 64 : Nat) : Int)).toNat = a := by omega
  have e2 : ((b : Int) % ((2 ^ 64 : Nat) : Int)).toNat = b := by omega
  rw [e1, e2, wrap64 (by omega) (by omega)]

theorem xor32 {a b : Nat} (ha : a < 4294967296) (hb : b < 4294967296) : bits (fun _ => (· ^^^ ·)) .u32 (a : Int) (b : Int) = ((a ^^^ b : Nat) : Int) := by
  have hx : a ^^^ b < 2 ^ 32 := Nat.xor_lt_two_pow (by simpa using ha) (by simpa using hb)
  change IntKind.u32.wrap (((BitVec.ofInt 32 (a : Int) ^^^ BitVec.ofInt 32 (b : Int)).toNat : Nat) : Int) = _
  rw [BitVec.toNat_xor, BitVec.toNat_ofInt, BitVec.toNat_ofInt]
  have e1 : ((a : Int) % ((2 ^ 32 : Nat) : Int)).toNat = a := by omega
  have e2 : ((b : Int) % ((2 ^ 32 : Nat) : Int)).toNat = b := by omega
  rw [e1, e2, u32wrap]
  omega

theorem and64 {a : Nat} (ha : a < 9223372036854775808) : bits (fun _ => (· &&& ·)) .i64 (a : Int) (4294967295 : Int) = ((a % 4294967296 : Nat) : Int) := by
  change IntKind.i64.wrap (((BitVec.ofInt 64 (a : Int) &&& BitVec.ofInt 64 (4294967295 : Int)).toNat : Nat) : Int) = _
  rw [BitVec.toNat_and, BitVec.toNat_ofInt, BitVec.toNat_ofInt]
  have e1 : ((a : Int) % ((2 ^ 64 : Nat) : Int)).toNat = a := by omega
  have e2 : ((4294967295 : Int) % ((2 ^ 64 : Nat) : Int)).toNat = 2 ^ 32 - 1 := by decide
  rw [e1, e2, Nat.and_two_pow_sub_one_eq_mod, wrap64 (by omega) (by omega)]

theorem bt_lt (s : ByteArray) (i : Int) : ∃ b : Nat, bt s i = (b : Int) ∧ b < 256 := by
  unfold bt
  exact ⟨_, rfl, (s.data.toList.getD i.toNat 0).toNat_lt⟩

theorem sum_step {n : Nat} (hn : n < 4294967296) (s : ByteArray) (i : Int) : ∃ m : Nat, m < 4294967296 ∧
    bits (fun _ => (· &&& ·)) .i64 (IntKind.i64.wrap ((bits (fun _ => (· ^^^ ·)) .i64 (n : Int) (IntKind.i64.wrap (bt s i))) * (16777619 : Int))) (4294967295 : Int) = (m : Int) ∧
    IntKind.u32.wrap ((bits (fun _ => (· ^^^ ·)) .u32 (n : Int) (IntKind.u32.wrap (bt s i))) * (16777619 : Int)) = (m : Int) := by
  obtain ⟨b, hb, hlt⟩ := bt_lt s i
  have hx : n ^^^ b < 2 ^ 32 := Nat.xor_lt_two_pow (by simpa using hn) (by omega)
  rw [hb, wrap64 (n := (b : Int)) (by omega) (by omega), u32wrap (b : Int), show ((b : Int) % 4294967296) = (b : Int) by omega, xor64 hn (by omega), xor32 hn (by omega)]
  generalize n ^^^ b = x at hx
  rw [wrap64 (by omega) (by omega), show ((x : Int) * 16777619) = ((x * 16777619 : Nat) : Int) by omega, and64 (by omega), u32wrap]
  exact ⟨x * 16777619 % 4294967296, by omega, rfl, by omega⟩

section
variable {k : Nat} (hk : 9223372036854775808 ≤ k)
include hk

theorem sum_ok {s : ByteArray} (hs : s.size ≤ 4294967296) : ∃ n : Int, F_spec_Sum k (s, ()) = some (n, ()) ∧ F_impl_Sum k (s, ()) = some (n, ()) := by
  have h1 : ∃ r : Int × Unit, F_spec_Sum k (s, ()) = some r ∧ ∃ n : Nat, r.1 = (n : Int) ∧ n < 4294967296 := by
    simp only [F_spec_Sum]
    refine loopN_tot (fun (t : ByteArray × Int × Int × Unit) => s.size - t.2.2.1.toNat) (fun (t : ByteArray × Int × Int × Unit) => t.1 = s ∧ (∃ n : Nat, t.2.1 = (n : Int) ∧ n < 4294967296) ∧ 0 ≤ t.2.2.1 ∧ t.2.2.1 ≤ (s.size : Int)) _ ?_ k _ ⟨rfl, ⟨2166136261, rfl, by omega⟩, by simp, by simp⟩ (by simp only; omega)
    rintro G ⟨s', n, i, u⟩ ⟨e1, ⟨m, e2, hm⟩, hi0, hi1⟩ hG
    change s' = s at e1
    change n = _ at e2
    subst e1 e2
    simp only at hi0 hi1 hG ⊢
    by_cases hi : i < (s'.size : Int)
    · rw [if_pos (by simpa using hi), if_pos (by simpa using ⟨hi0, hi⟩)]
      obtain ⟨m', hm', q1, _⟩ := sum_step hm s' i
      rw [q1, wrap64 (by omega) (by omega)]
      exact hG (s', _, i + 1, ()) ⟨rfl, ⟨m', rfl, hm'⟩, by simp only; omega, by simp only; omega⟩ (by simp only; omega)
    · rw [if_neg (by simpa using hi)]
      exact ⟨_, rfl, m, rfl, hm⟩
  have h2 : F_spec_Sum k (s, ()) = F_impl_Sum k (s, ()) := by
    simp only [F_spec_Sum, F_impl_Sum, joinC]
    refine loop_sim (fun (t t' : ByteArray × Int × Int × Unit) => t = t' ∧ ∃ n : Nat, t.2.1 = (n : Int) ∧ n < 4294967296) (fun a b => a = b) rfl ?_ k _ _ ⟨rfl, 2166136261, rfl, by omega⟩
    rintro G G' ⟨s1, n, i, u⟩ t' ⟨rfl, m, e2, hm⟩ hG
    change n = _ at e2
    subst e2
    simp only
    obtain ⟨m', hm', q1, q2⟩ := sum_step hm s1 i
    split
    · split
      · rw [q1, q2]
        exact hG _ _ ⟨rfl, m', rfl, hm'⟩
      · rfl
    · rw [wrap64 (by omega) (by omega)]
  obtain ⟨⟨n, u⟩, hr, _⟩ := h1
  exact ⟨n, hr, h2 ▸ hr⟩

def partB (x : DLabel) : ByteArray := ((x.1 ++ (⟨#[61, 34]⟩ : ByteArray)) ++ x.2) ++ (⟨#[34]⟩ : ByteArray)
def tx (l : List DLabel) : Nat → ByteArray
  | 0 => ⟨#[123]⟩
  | i + 1 => ((((if i = 0 then tx l i else tx l i ++ (⟨#[44, 32]⟩ : ByteArray)) ++ (l.getD i tLabel.dflt).1) ++ (⟨#[61, 34]⟩ : ByteArray)) ++ (l.getD i tLabel.dflt).2) ++ (⟨#[34]⟩ : ByteArray)

theorem tx_size {l : List DLabel} (h : okSet l = true) : ∀ i, i ≤ l.length → (tx l i).size ≤ 1 + 25 * i := by
  simp only [okSet, Bool.and_eq_true, allB_iff] at h
  intro i
  induction i with
  | zero => intro _; simp [tx, ByteArray.size]
  | succ i ih =>
    intro hi
    have := ih (by omega)
    have h2 := h.2 i (by omega) (by omega)
    simp only [okLabel, okName, okPlain, Bool.and_eq_true, decide_eq_true_eq] at h2
    simp only [tx, ByteArray.size_append]
    have e1 : (⟨#[61, 34]⟩ : ByteArray).size = 2 := rfl
    have e2 : (⟨#[34]⟩ : ByteArray).size = 1 := rfl
    have e3 : (⟨#[44, 32]⟩ : ByteArray).size = 2 := rfl
    split
    · omega
    · rw [ByteArray.size_append]; omega

theorem spec_SetText_ok {l : List DLabel} (hs : tot (.sl tLabel) l ≤ 1048576) : F_spec_SetText k (l, ()) = some (if okSet l = true then tx l l.length ++ (⟨#[125]⟩ : ByteArray) else ⟨#[]⟩, ()) := by
  have hl := tot_len (e := tLabel) (l := l)
  simp only [F_spec_SetText, joinC]
  rw [spec_SetOk_ok hk hs, Option.bind_some]
  cases hok : okSet l with
  | false => simp
  | true =>
    have hb := tx_size hk hok
    have hok' := hok
    simp only [okSet, Bool.and_eq_true, allB_iff, decide_eq_true_eq] at hok'
    rw [if_neg (by simp), if_pos rfl]
    rw [show ((l, (⟨#[123]⟩ : ByteArray), (0 : Int), ()) : List DLabel × ByteArray × Int × Unit) = (fun i : Nat => (l, tx l i, (i : Int), ())) 0 from rfl]
    have e1 : (⟨#[61, 34]⟩ : ByteArray).size = 2 := rfl
    have e2 : (⟨#[34]⟩ : ByteArray).size = 1 := rfl
    have e3 : (⟨#[44, 32]⟩ : ByteArray).size = 2 := rfl
    have e4 : (⟨#[125]⟩ : ByteArray).size = 1 := rfl
    refine loop_run (fun i : Nat => (l, tx l i, (i : Int), ())) l.length ?_ ?_ k 0 (by omega) (by omega)
    · intro G i hi
      have hbi := hb i (by omega)
      have hlab := hok'.2 i (by omega) hi
      simp only [okLabel, okName, okPlain, Bool.and_eq_true, decide_eq_true_eq] at hlab
      simp only [Int.toNat_natCast]
      rw [lt_nat, decide_eq_true hi, if_pos rfl]
      by_cases h0 : i = 0
      · subst h0
        have hz : (tx l 0).size = 1 := rfl
        rw [if_neg (by simp)]
        simp only [in_nat hi, if_true, ByteArray.size_append, e1, e2, hz]
        rw [if_pos (by simp only [decide_eq_true_eq]; omega), if_pos (by simp only [decide_eq_true_eq]; omega), if_pos (by simp only [decide_eq_true_eq]; omega), if_pos (by simp only [decide_eq_true_eq]; omega), wrapS (by omega)]
        rfl
      · have h0n : 0 < i := by omega
        rw [if_pos (by simp; omega), if_pos (by simp only [e3, decide_eq_true_eq]; omega)]
        simp only [in_nat hi, if_true, ByteArray.size_append, e1, e2, e3]
        rw [if_pos (by simp only [decide_eq_true_eq]; omega), if_pos (by simp only [decide_eq_true_eq]; omega), if_pos (by simp only [decide_eq_true_eq]; omega), if_pos (by simp only [decide_eq_true_eq]; omega), wrapS (by omega)]
        simp only [tx, if_neg h0]
    · intro G
      have hbi := hb l.length (by omega)
      simp only
      rw [lt_nat, decide_eq_false (by omega), if_neg (by simp), if_pos (by simp only [e4, decide_eq_true_eq]; omega)]

/-- The parts of a set's text. -/
def pl (l : List DLabel) (i : Nat) : List ByteArray := (List.range i).map (fun j => partB (l.getD j tLabel.dflt))

theorem pl_succ (l : List DLabel) (i : Nat) : pl l (i + 1) = pl l i ++ [partB (l.getD i tLabel.dflt)] := by
  simp [pl, List.range_succ]

theorem join_snoc (xs : List (List UInt8)) (y sep : List UInt8) : Lib.join (xs ++ [y]) sep = if xs = [] then y else Lib.join xs sep ++ sep ++ y := by
  cases xs with
  | nil => simp [Lib.join_one]
  | cons x r =>
    rw [if_neg (by simp), List.cons_append, Lib.join_cons, Lib.join_cons]
    simp [Lib.joinTail, List.append_assoc]

theorem tx_join (l : List DLabel) : ∀ i, (tx l i).data.toList = 123 :: joinL (pl l i) ⟨#[44, 32]⟩ := by
  intro i
  induction i with
  | zero => rfl
  | succ i ih =>
    unfold joinL at ih ⊢
    rw [pl_succ hk, List.map_append, List.map_singleton, join_snoc hk]
    simp only [tx, partB]
    by_cases h0 : i = 0
    · subst h0
      simp [pl, tx, ByteArray.data_append]
    · have hne : List.map (fun x => x.data.toList) (pl l i) ≠ [] := by
        intro e
        have := congrArg List.length e
        simp [pl] at this
        exact h0 this
      rw [if_neg h0, if_neg hne]
      simp only [ByteArray.data_append, Array.toList_append, ih]
      simp [List.append_assoc]

theorem bytes_ext {a b : ByteArray} (h : a.data.toList = b.data.toList) : a = b := by
  cases a; cases b
  simp at h
  rw [h]

theorem impl_SetText_ok {l : List DLabel} (hs : tot (.sl tLabel) l ≤ 1048576) : F_impl_SetText k (l, ()) = some (if okSet l = true then tx l l.length ++ (⟨#[125]⟩ : ByteArray) else ⟨#[]⟩, ()) := by
  have hl := tot_len (e := tLabel) (l := l)
  simp only [F_impl_SetText, joinC]
  rw [impl_SetOk_ok hk hs, Option.bind_some]
  cases hok : okSet l with
  | false => simp
  | true =>
    have hb := tx_size hk hok l.length (by omega)
    have hok' := hok
    simp only [okSet, Bool.and_eq_true, allB_iff, decide_eq_true_eq] at hok'
    rw [if_neg (by simp), if_pos rfl]
    rw [show ((([] : List ByteArray), l, (l.length : Int), (0 : Int), ()) : List ByteArray × List DLabel × Int × Int × Unit) = (fun i : Nat => (pl l i, l, (l.length : Int), (i : Int), ())) 0 from rfl]
    have e1 : (⟨#[61, 34]⟩ : ByteArray).size = 2 := rfl
    have e2 : (⟨#[34]⟩ : ByteArray).size = 1 := rfl
    refine loop_run (fun i : Nat => (pl l i, l, (l.length : Int), (i : Int), ())) l.length ?_ ?_ k 0 (by omega) (by omega)
    · intro G i hi
      have hlab := hok'.2 i (by omega) hi
      simp only [okLabel, okName, okPlain, Bool.and_eq_true, decide_eq_true_eq] at hlab
      have hpl : (pl l i).length = i := by simp [pl]
      simp only [Int.toNat_natCast]
      rw [lt_nat, decide_eq_true hi, if_pos rfl, if_pos (in_nat hi)]
      simp only [ByteArray.size_append, e1, e2]
      rw [if_pos (by simp only [decide_eq_true_eq]; omega), if_pos (by simp only [decide_eq_true_eq]; omega), if_pos (by simp only [decide_eq_true_eq]; omega), if_pos (by simp only [decide_eq_true_eq, List.length_singleton, hpl]; omega), wrapS (by omega), pl_succ hk]
      rfl
    · intro G
      simp only
      rw [lt_nat, decide_eq_false (by omega), if_neg (by simp)]
      have hj : (joinL (pl l l.length) ⟨#[44, 32]⟩).length ≤ 1 + 25 * l.length := by
        have := tx_join hk l l.length
        have h2 := congrArg List.length this
        simp only [Array.length_toList, List.length_cons] at h2
        have h3 : (tx l l.length).data.size = (tx l l.length).size := rfl
        omega
      have hpl : (pl l l.length).length = l.length := by simp [pl]
      simp only [F_strings_Join, joinF]
      rw [if_pos ⟨by rw [hpl]; omega, by omega⟩, Option.bind_some]
      simp only [ByteArray.size_append]
      have hz : (⟨(joinL (pl l l.length) ⟨#[44, 32]⟩).toArray⟩ : ByteArray).size = (joinL (pl l l.length) ⟨#[44, 32]⟩).length := by simp [ByteArray.size]
      have e3 : (⟨#[123]⟩ : ByteArray).size = 1 := rfl
      have e4 : (⟨#[125]⟩ : ByteArray).size = 1 := rfl
      rw [hz, e3, e4, if_pos (by simp only [decide_eq_true_eq]; omega), if_pos (by simp only [decide_eq_true_eq]; omega)]
      congr 2
      refine bytes_ext hk ?_
      simp only [ByteArray.data_append, Array.toList_append]
      rw [tx_join hk]
      simp

/-- A finger: what both compute. -/
theorem finger_ok {l : List DLabel} (hs : tot (.sl tLabel) l ≤ 1048576) : ∃ n : Int, F_spec_Finger k (l, ()) = some (n, ()) ∧ F_impl_Finger k (l, ()) = some (n, ()) := by
  simp only [F_spec_Finger, F_impl_Finger]
  rw [spec_SetText_ok hk hs, impl_SetText_ok hk hs]
  simp only [Option.bind_some]
  have hsz : (if okSet l = true then tx l l.length ++ (⟨#[125]⟩ : ByteArray) else ⟨#[]⟩).size ≤ 4294967296 := by
    split
    · rename_i hok
      have hb := tx_size hk hok l.length (by omega)
      have hl : l.length ≤ 4 := by
        simp only [okSet, Bool.and_eq_true, decide_eq_true_eq] at hok
        exact hok.1
      have e4 : (⟨#[125]⟩ : ByteArray).size = 1 := rfl
      rw [ByteArray.size_append]
      omega
    · simp [ByteArray.size]
  obtain ⟨n, q1, q2⟩ := sum_ok hk hsz
  rw [q1, q2]
  simp only [Option.bind_some]
  rw [if_pos (by simp), if_pos (by simp)]
  exact ⟨_, rfl, rfl⟩

theorem partOf_eq (f n : Int) : F_impl_PartOf k (f, n, ()) = F_spec_PartOf k (f, n, ()) := rfl

theorem partOf_ok (f n : Int) : ∃ r : Int, F_spec_PartOf k (f, n, ()) = some (r, ()) := by
  simp only [F_spec_PartOf]
  by_cases h1 : n < 1
  · simp [h1]
  · by_cases h2 : f < 0
    · simp [h2]
    · have h3 : n ≠ 0 := by omega
      simp [h1, h2, h3]

theorem wantsPart_ok {t : DTask} {n : Int} (hs : tot tTask t ≤ 1048576) : ∃ r : Int, F_spec_WantsPart k (t, n, ()) = some (r, ()) ∧ F_impl_WantsPart k (t, n, ()) = some (r, ()) := by
  rw [tot_Task hk] at hs
  have ha : tot (.sl tLabel) t.2.2.1.1 ≤ 1048576 := by
    have := tot_Alarm hk t.2.2.1
    omega
  obtain ⟨f1, p1, p2⟩ := finger_ok hk ha
  obtain ⟨f2, p3, p4⟩ := finger_ok hk (l := t.2.2.2.1) (by omega)
  obtain ⟨r1, q1⟩ := partOf_ok hk f1 n
  obtain ⟨r2, q2⟩ := partOf_ok hk f2 n
  simp only [F_spec_WantsPart, F_impl_WantsPart, F_impl_partAt]
  rw [p1, p2, p3, p4]
  simp only [Option.bind_some, partOf_eq hk, q1, q2]
  by_cases hn : n < 1
  · simp [hn]
  · by_cases hp : t.2.1 = 0
    · by_cases h1 : t.1 = 1
      · simp [hn, hp, h1]
      · by_cases h2 : t.1 = 2
        · simp [hn, hp, h2]
        · by_cases h3 : t.1 = 3
          · simp [hn, hp, h3]
          · by_cases h4 : t.1 = 4
            · simp [hn, hp, h4]
            · simp [hn, hp, h1, h2, h3, h4]
    · simp [hn, hp]

end
end Vg.Try
