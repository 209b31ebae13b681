/- impl.Order: the sorting, by hand. -/
import Derived.Test.YtmoafmclhokdaaaOR1
import Derived.Test.YtmoafmclhokdaaaVe
import Derived.Test.YtmoafmclhokdaaaS
namespace Go.Proofs
open Go.Shelf Go.RowKit Go.Lib Go.Sort

noncomputable def Try.oiT : TypeInfo := (Try.prog.info? 24).get (by kernel_rfl)
noncomputable def Try.oiE : TypeInfo := (Try.prog.info? 3).get (by kernel_rfl)
theorem Try.oiK (n : Nat) (h2 : 2 ≤ n) (ke : Nat) : Lib.swapperK n Try.oiE ke = Lib.swapperK 2 Try.oiE ke := by
  have c : (n == 0) = false := by simp; omega
  have d : (n == 1) = false := by simp; omega
  simp [Lib.swapperK, c, d]

theorem vgLin_swo {α : Type} (f : α → Int) : SWO (fun x y : α => decide (f x < f y)) where
  irrefl x := by simp
  trans x y z h1 h2 := by simp only [decide_eq_true_eq] at *; omega
  ntrans x y z h1 h2 := by simp only [decide_eq_false_iff_not] at *; omega

set_option maxHeartbeats 4000000 in
set_option maxRecDepth 100000 in
theorem Try.order_few {nl : Nat} [Inhabited {x : Nat // x < nl}] (lin : Nat → Int) (blk off c Bl Bo bl ol cl : Nat) (d : Array {x : Nat // x < nl}) (w : World) (h2 : 2 ≤ d.size) (h20 : d.size < 1152921504606846976) (hnl : nl < 4611686018427387904)
    (hH : HoldsK (fun x : {x : Nat // x < nl} => [Value.int .i64 x.val]) 1 w blk off d) (hblk : blk < w.heap.size)
    (hl : w.cell? ⟨Bl, 0, none⟩ = some (.slice (some ⟨bl, ol, none⟩) nl cl)) (ho : w.cell? ⟨Bo, 0, none⟩ = some (.slice (some ⟨blk, off, none⟩) d.size c))
    (hlin : ∀ x, x < nl → w.cell? ⟨bl, ol + x * 15 + 13, none⟩ = some (.int .i64 (lin x))) (n1 : Bl ≠ blk) (n2 : Bo ≠ blk) (n3 : bl ≠ blk) (m1 : Bl < w.heap.size) (m2 : Bo < w.heap.size) (m3 : bl < w.heap.size) :
    Calls Try.prog 75 #[.iface 24 (.slice (some ⟨blk, off, none⟩) d.size c), .func (.func 76) #[] #[.pointer (some ⟨Bl, 0, none⟩), .pointer (some ⟨Bo, 0, none⟩)]] w fun e w' =>
      e = .returned (.tuple #[]) ∧ ∃ n os, w' = grow (putRowK (fun x : {x : Nat // x < nl} => [Value.int .i64 x.val]) 1 (Sort.ahead w n) blk off (Sort.insertionSort (fun x y => decide (lin x.val < lin y.val)) d 0 d.size)) os := by
  have hother : ∀ m os (dk : Array {x : Nat // x < nl}) bk o, bk ≠ blk → bk < w.heap.size → (sortWorldK (fun x : {x : Nat // x < nl} => [Value.int .i64 x.val]) 1 w blk off m dk os).cell? ⟨bk, o, none⟩ = w.cell? ⟨bk, o, none⟩ :=
    fun m os dk bk o h1 h2 => cell?_sortWorldK_other _ 1 _ blk off m dk os _ h1 h2
  have hless : LessReadsK Try.prog 76 #[.pointer (some ⟨Bl, 0, none⟩), .pointer (some ⟨Bo, 0, none⟩)] (fun x : {x : Nat // x < nl} => [Value.int .i64 x.val]) 1 (fun x y => decide (lin x.val < lin y.val)) blk off d.size w := by
    intro m os dk hs i j hi hj
    have hcell : ∀ x : Nat, x < d.size → (sortWorldK (fun x : {x : Nat // x < nl} => [Value.int .i64 x.val]) 1 w blk off m dk os).cell? ⟨blk, off + x, none⟩ = some (.int .i64 dk[x]!.val) := by
      intro x hx
      have hh := holdsK_sortWorldK (fun x : {x : Nat // x < nl} => [Value.int .i64 x.val]) 1 _ blk off m d dk os hblk hH hs
      have := (hh.cell (i := x) (c := 0) (by omega) (by omega)).1
      simp only [Nat.mul_one, Nat.add_zero, List.getElem!_cons_zero] at this
      exact this
    exact Try.order_less blk off c Bl Bo d.size bl ol nl cl _ i j hi hj (by omega) dk[i]!.val dk[j]!.val dk[i]!.property dk[j]!.property hnl _ _ ((hother m os dk Bl 0 n1 m1).trans hl) ((hother m os dk Bo 0 n2 m2).trans ho) (hcell i hi) (hcell j hj)
      ((hother m os dk bl _ n3 m3).trans (hlin _ dk[i]!.property)) ((hother m os dk bl _ n3 m3).trans (hlin _ dk[j]!.property))
  have hB : sliceBound Try.prog 3 Try.oiE 2 (some ⟨blk, off, none⟩) d.size c = #[.slice (some ⟨blk, off, none⟩) d.size c, typeHandle Try.prog 3] := by
    unfold sliceBound; rw [if_neg (swapperK_gt _ _ _ h2)]
  have hS := vgSliceStable Try.gt8 (i := Try.oiT) (ie := Try.oiE) (t := 24) (e := 3) (by kernel_rfl) (by kernel_rfl) (by kernel_rfl) (by kernel_rfl) (ke := 2) (fun _ => by kernel_rfl) (enc := fun x : {x : Nat // x < nl} => [Value.int .i64 x.val]) (k := 1) (fun _ => rfl)
    (fun x v hv => by simp only [List.mem_singleton] at hv; rw [hv]; rfl)
    (fun x y => decide (lin x.val < lin y.val)) (vgLin_swo _) (g := 76) (enters_of Try.func76 (by kernel_rfl) rfl) (c := c) h2 h20 (f := 172) (by rw [Try.oiK _ h2]; kernel_rfl)
    (by rw [hB]; exact swapSwapsK_one true 172 (fun args W => run_callFunc_extern (f := 172) Try.func172 (by kernel_rfl) (by kernel_rfl) (by kernel_rfl) (e := Extern.ReflectliteSwapper.swap true) (by kernel_rfl) args W) 3 Try.oiE (by kernel_rfl) (by kernel_rfl) (fun _ => by kernel_rfl) (fun x : {x : Nat // x < nl} => Value.int .i64 x.val) (fun _ => rfl) blk off d.size c) hless hH hblk
  exact hS

theorem Try.order_tiny (p : Option Addr) (n c : Nat) (h1 : n ≤ 1) (lb : Array Value) (w : World) :
    Calls Try.prog 75 #[.iface 24 (.slice p n c), .func (.func 76) #[] lb] w fun e w' => e = .returned (.tuple #[]) ∧ ∃ os, w' = grow w os := by
  obtain ⟨f, hf⟩ : ∃ f, Try.prog.funcs.findIdx? (·.name == "internal/reflectlite" ++ ".Swapper$" ++ toString (swapperK n Try.oiE 2)) = some f := by
    rcases Nat.eq_zero_or_pos n with h | h
    · subst h; exact ⟨168, by kernel_rfl⟩
    · obtain rfl : n = 1 := by omega
      exact ⟨169, by kernel_rfl⟩
  exact Any.sort_SliceStable_tiny Try.gt8 24 3 Try.oiT Try.oiE (by kernel_rfl) (by kernel_rfl) (by kernel_rfl) (by kernel_rfl) 2 (fun _ => by kernel_rfl) p n c h1 f hf (.func 76) #[] lb w

end Go.Proofs
