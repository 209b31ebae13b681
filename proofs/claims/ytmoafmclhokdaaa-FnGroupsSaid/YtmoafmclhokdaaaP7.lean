/- Plain laws: sums, texts of sets, fingers, parts. -/
import Derived.Test.YtmoafmclhokdaaaP6
import Derived.Test.YtmoafmclhokdaaaVd
namespace Vg.Try
open Go Vg
set_option linter.unusedVariables false
set_option linter.unusedSectionVars false
set_option linter.unusedSimpArgs false

theorem u32wrap (n : Int) : IntKind.u32.wrap n = n % 4294967296 := by
  simp [IntKind.wrap, IntKind.signed, IntKind.bits]

theorem xor64 {a b : Nat} (ha : a < 4294967296) (hb : b < 4294967296) : bits (fun _ => (· ^^^ ·)) .i64 (a : Int) (b : Int) = ((a ^^^ b : Nat) : Int) := by
  have hx : a ^^^ b < 2 ^ 32 := Nat.xor_lt_two_pow (by simpa using ha) (by simpa using hb)
  change IntKind.i64.wrap (((BitVec.ofInt 64 (a : Int) ^^^ BitVec.ofInt 64 (b : Int)).toNat : Nat) : Int) = _
  rw [BitVec.toNat_xor, BitVec.toNat_ofInt, BitVec.toNat_ofInt]
  have e1 : ((a : Int) % ((2 ^ 64 : Nat) : Int)).toNat = a := by omega
  have e2 : ((b : Int) % ((2 ^ 64 : Nat) : Int)).toNat = b := by omega
  rw [e1, e2, wrap64 (by omega) (by omega)]

theorem xor32 {a b : Nat} (ha : a < 4294967296) (hb : b < 4294967296) : bits (fun _ => (· ^^^ ·)) .u32 (a : Int) (b : Int) = ((a ^^^ b : Nat) : Int) := by
  have hx : a ^^^ b < 2 ^ 32 := Nat.xor_lt_two_pow (by simpa using ha) (by simpa using hb)
  change IntKind.u32.wrap (((BitVec.ofInt 32 (a : Int) ^^^ BitVec.ofInt 32 (b : Int)).toNat : Nat) : Int) = _
  rw [BitVec.toNat_xor, BitVec.toNat_ofInt, BitVec.toNat_ofInt]
  have e1 : ((a : Int) % ((2 ^ 32 : Nat) : Int)).toNat = a := by omega
  have e2 : ((b : Int) % ((2 ^ 32 : Nat) : Int)).toNat = b := by omega
  rw [e1, e2, u32wrap]
  omega

theorem and64 {a : Nat} (ha : a < 9223372036854775808) : bits (fun _ => (· &&& ·)) .i64 (a : Int) (4294967295 : Int) = ((a % 4294967296 : Nat) : Int) := by
  change IntKind.i64.wrap (((BitVec.ofInt 64 (a : Int) &&& BitVec.ofInt 64 (4294967295 : Int)).toNat : Nat) : Int) = _
  rw [BitVec.toNat_and, BitVec.toNat_ofInt, BitVec.toNat_ofInt]
  have e1 : ((a : Int) % ((2 ^ 64 : Nat) : Int)).toNat = a := by omega
  have e2 : ((4294967295 : Int) % ((2 ^ 64 : Nat) : Int)).toNat = 2 ^ 32 - 1 := by decide
  rw [e1, e2, Nat.and_two_pow_sub_one_eq_mod, wrap64 (by omega) (by omega)]

theorem bt_lt (s : ByteArray) (i : Int) : ∃ b : Nat, bt s i = (b : Int) ∧ b < 256 := by
  unfold bt
  exact ⟨_, rfl, (s.data.toList.getD i.toNat 0).toNat_lt⟩

theorem sum_step {n : Nat} (hn : n < 4294967296) (s : ByteArray) (i : Int) : ∃ m : Nat, m < 4294967296 ∧
    bits (fun _ => (· &&& ·)) .i64 (IntKind.i64.wrap ((bits (fun _ => (· ^^^ ·)) .i64 (n : Int) (IntKind.i64.wrap (bt s i))) * (16777619 : Int))) (4294967295 : Int) = (m : Int) ∧
    IntKind.u32.wrap ((bits (fun _ => (· ^^^ ·)) .u32 (n : Int) (IntKind.u32.wrap (bt s i))) * (16777619 : Int)) = (m : Int) := by
  obtain ⟨b, hb, hlt⟩ := bt_lt s i
  have hx : n ^^^ b < 2 ^ 32 := Nat.xor_lt_two_pow (by simpa using hn) (by omega)
  rw [hb, wrap64 (n := (b : Int)) (by omega) (by omega), u32wrap (b : Int), show ((b : Int) % 4294967296) = (b : Int) by omega, xor64 hn (by omega), xor32 hn (by omega)]
  generalize n ^^^ b = x at hx
  rw [wrap64 (by omega) (by omega), show ((x : Int) * 16777619) = ((x * 16777619 : Nat) : Int) by omega, and64 (by omega), u32wrap]
  exact ⟨x * 16777619 % 4294967296, by omega, rfl, by omega⟩

section
variable {k : Nat} (hk : 9223372036854775808 ≤ k)
include hk

def partB (x : DLabel) : ByteArray := ((x.1 ++ (⟨#[61, 34]⟩ : ByteArray)) ++ x.2) ++ (⟨#[34]⟩ : ByteArray)
def tx (l : List DLabel) : Nat → ByteArray
  | 0 => ⟨#[123]⟩
  | i + 1 => ((((if i = 0 then tx l i else tx l i ++ (⟨#[44, 32]⟩ : ByteArray)) ++ (l.getD i tLabel.dflt).1) ++ (⟨#[61, 34]⟩ : ByteArray)) ++ (l.getD i tLabel.dflt).2) ++ (⟨#[34]⟩ : ByteArray)

theorem tx_size {l : List DLabel} (h : okSet l = true) : ∀ i, i ≤ l.length → (tx l i).size ≤ 1 + 25 * i := by
  simp only [okSet, Bool.and_eq_true, allB_iff] at h
  intro i
  induction i with
  | zero => intro _; simp [tx, ByteArray.size]
  | succ i ih =>
    intro hi
    have := ih (by omega)
    have h2 := h.2 i (by omega) (by omega)
    simp only [okLabel, okName, okPlain, Bool.and_eq_true, decide_eq_true_eq] at h2
    simp only [tx, ByteArray.size_append]
    have e1 : (⟨#[61, 34]⟩ : ByteArray).size = 2 := rfl
    have e2 : (⟨#[34]⟩ : ByteArray).size = 1 := rfl
    have e3 : (⟨#[44, 32]⟩ : ByteArray).size = 2 := rfl
    split
    · omega
    · rw [ByteArray.size_append]; omega

/-- The parts of a set's text. -/
def pl (l : List DLabel) (i : Nat) : List ByteArray := (List.range i).map (fun j => partB (l.getD j tLabel.dflt))

theorem pl_succ (l : List DLabel) (i : Nat) : pl l (i + 1) = pl l i ++ [partB (l.getD i tLabel.dflt)] := by
  simp [pl, List.range_succ]

theorem join_snoc (xs : List (List UInt8)) (y sep : List UInt8) : Lib.join (xs ++ [y]) sep = if xs = [] then y else Lib.join xs sep ++ sep ++ y := by
  cases xs with
  | nil => simp [Lib.join_one]
  | cons x r =>
    rw [if_neg (by simp), List.cons_append, Lib.join_cons, Lib.join_cons]
    simp [Lib.joinTail, List.append_assoc]

theorem tx_join (l : List DLabel) : ∀ i, (tx l i).data.toList = 123 :: joinL (pl l i) ⟨#[44, 32]⟩ := by
  intro i
  induction i with
  | zero => rfl
  | succ i ih =>
    unfold joinL at ih ⊢
    rw [pl_succ hk, List.map_append, List.map_singleton, join_snoc hk]
    simp only [tx, partB]
    by_cases h0 : i = 0
    · subst h0
      simp [pl, tx, ByteArray.data_append]
    · have hne : List.map (fun x => x.data.toList) (pl l i) ≠ [] := by
        intro e
        have := congrArg List.length e
        simp [pl] at this
        exact h0 this
      rw [if_neg h0, if_neg hne]
      simp only [ByteArray.data_append, Array.toList_append, ih]
      simp [List.append_assoc]

theorem bytes_ext {a b : ByteArray} (h : a.data.toList = b.data.toList) : a = b := by
  cases a; cases b
  simp at h
  rw [h]

end
end Vg.Try
