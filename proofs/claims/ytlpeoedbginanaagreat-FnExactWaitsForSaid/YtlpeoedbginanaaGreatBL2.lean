/- impl.byLabels: by hand: few elements; one or none. -/
import Derived.Test.YtlpeoedbginanaaGreatBL1
import Derived.Test.YtlpeoedbginanaaGreatVc
import Derived.Test.YtlpeoedbginanaaGreatS
namespace Go.Proofs
open Go.Shelf Go.RowKit Go.Lib Go.Sort

noncomputable def Tryz.siT : TypeInfo := (Tryz.prog.info? 40).get (by kernel_rfl)
noncomputable def Tryz.siE : TypeInfo := (Tryz.prog.info? 69).get (by kernel_rfl)
theorem Tryz.siK (n : Nat) (h2 : 2 ≤ n) (ke : Nat) : Lib.swapperK n Tryz.siE ke = Lib.swapperK 2 Tryz.siE ke := by
  have c : (n == 0) = false := by simp; omega
  have d : (n == 1) = false := by simp; omega
  simp [Lib.swapperK, c, d]

set_option maxHeartbeats 4000000 in
set_option maxRecDepth 100000 in
theorem Tryz.byLabels_few {α : Type} [Inhabited α] (enc : α → List Value) (hk : ∀ x, (enc x).length = 4) (h1 : ∀ x, ∀ v ∈ enc x, v.oneCell' = true) (lab : α → List (ByteArray × ByteArray)) (blk off c : Nat) (d : Array α) (w : World)
    (h2 : 2 ≤ d.size) (h20 : d.size < 20) (hH : HoldsK enc 4 w blk off d) (hblk : blk < w.heap.size) (hlab : VgLabAt enc lab blk w) :
    Calls Tryz.prog 294 #[.slice (some ⟨blk, off, none⟩) d.size c] w fun e w' =>
      e = .returned (.slice (some ⟨blk, off, none⟩) d.size c) ∧ ∃ n os, w' = grow (putRowK enc 4 (Sort.ahead w n) blk off (Sort.insertionSort (fun x y => Vg.setLess (lab x) (lab y)) d 0 d.size)) os := by
  have hW1 : w.alloc (.cells #[.slice (some ⟨blk, off, none⟩) d.size c] 40) = grow w #[.cells #[.slice (some ⟨blk, off, none⟩) d.size c] 40] := alloc_eq_grow _ _
  have hH1 : HoldsK enc 4 (w.alloc (.cells #[.slice (some ⟨blk, off, none⟩) d.size c] 40)) blk off d := by rw [hW1]; exact holdsK_grow enc 4 w _ blk off d hblk hH
  have hb1 : blk < (w.alloc (.cells #[.slice (some ⟨blk, off, none⟩) d.size c] 40)).heap.size := by rw [hW1, size_grow]; omega
  have hbox : ∀ m os (dk : Array α), (sortWorldK enc 4 (w.alloc (.cells #[.slice (some ⟨blk, off, none⟩) d.size c] 40)) blk off m dk os).cell? ⟨w.heap.size, 0, none⟩ = some (.slice (some ⟨blk, off, none⟩) d.size c) := by
    intro m os dk
    rw [cell?_sortWorldK_other enc 4 _ blk off m dk os _ (by show w.heap.size ≠ blk; omega) (by show w.heap.size < _; rw [hW1, size_grow]; simp)]
    simp
  have hless : LessReadsK Tryz.prog 351 #[.pointer (some ⟨w.heap.size, 0, none⟩)] enc 4 (fun x y => Vg.setLess (lab x) (lab y)) blk off d.size (w.alloc (.cells #[.slice (some ⟨blk, off, none⟩) d.size c] 40)) := by
    intro m os dk hs i j hi hj
    have hcell : ∀ x : Nat, x < d.size → ∀ v, (enc dk[x]!)[0]? = some v → (sortWorldK enc 4 (w.alloc (.cells #[.slice (some ⟨blk, off, none⟩) d.size c] 40)) blk off m dk os).cell? ⟨blk, off + x * 4, none⟩ = some v := by
      intro x hx v hv
      have hh := holdsK_sortWorldK enc 4 _ blk off m d dk os hb1 hH1 hs
      have := (hh.cell (i := x) (c := 0) (by omega) (by omega)).1
      rw [Nat.add_zero] at this
      rw [this]
      simp [hv]
    have hl : ∀ (x : α) (q : Nat), ∃ p c', (enc x)[0]? = some (.slice p (lab x).length c') ∧ (lab x).length < 4611686018427387904 ∧
        ∀ i, i < (lab x).length → ∃ bk o, p = some ⟨bk, o, none⟩ ∧ ((sortWorldK enc 4 (w.alloc (.cells #[.slice (some ⟨blk, off, none⟩) d.size c] 40)) blk off m dk os).drewN q).cell? ⟨bk, o + i * 2, none⟩ = some (.string ((lab x).getD i (ByteArray.empty, ByteArray.empty)).1) ∧
          ((sortWorldK enc 4 (w.alloc (.cells #[.slice (some ⟨blk, off, none⟩) d.size c] 40)) blk off m dk os).drewN q).cell? ⟨bk, o + i * 2 + 1, none⟩ = some (.string ((lab x).getD i (ByteArray.empty, ByteArray.empty)).2) := by
      intro x q
      obtain ⟨p, c', e1, e2, e3⟩ := hlab x
      refine ⟨p, c', e1, e2, fun i hi => ?_⟩
      obtain ⟨bk, o, q1, q2, q3, q4, q5⟩ := e3 i hi
      have ho : ∀ o', ((sortWorldK enc 4 (w.alloc (.cells #[.slice (some ⟨blk, off, none⟩) d.size c] 40)) blk off m dk os).drewN q).cell? ⟨bk, o', none⟩ = w.cell? ⟨bk, o', none⟩ := by
        intro o'
        show (sortWorldK enc 4 (w.alloc (.cells #[.slice (some ⟨blk, off, none⟩) d.size c] 40)) blk off m dk os).cell? ⟨bk, o', none⟩ = _
        rw [cell?_sortWorldK_other enc 4 _ blk off m dk os _ q2 (by show bk < _; rw [hW1, size_grow]; omega), hW1, cell?_grow _ _ _ q3]
      exact ⟨bk, o, q1, by rw [ho]; exact q4, by rw [ho]; exact q5⟩
    obtain ⟨pa, ca, a1, a2, _⟩ := hl dk[i]! 0
    obtain ⟨pb, cb, b1, b2, _⟩ := hl dk[j]! 0
    refine Tryz.byLabels_less blk off c w.heap.size d.size _ i j hi hj (by omega) _ _ _ (hbox m os dk) (hcell i hi _ a1) (hcell j hj _ b1) (fun q => ?_)
    obtain ⟨pa', ca', a1', _, a3⟩ := hl dk[i]! q
    obtain ⟨pb', cb', b1', _, b3⟩ := hl dk[j]! q
    rw [a1] at a1'; rw [b1] at b1'
    cases a1'; cases b1'
    exact Tryz.setLess_reads pa pb ca cb _ _ _ a2 b2 a3 b3
  have hS := vgSliceStable_few Tryz.gt8 (i := Tryz.siT) (ie := Tryz.siE) (t := 40) (e := 69) (by kernel_rfl) (by kernel_rfl) (by kernel_rfl) (by kernel_rfl) (ke := 25) (fun _ => by kernel_rfl) hk (by kernel_rfl) (fun _ => by kernel_rfl) h1
    (fun x y => Vg.setLess (lab x) (lab y)) (g := 351) (enters_of Tryz.func351 (by kernel_rfl) rfl) (c := c) h2 h20 (f := 395) (by rw [Tryz.siK _ h2]; kernel_rfl) false
    (fun args W => run_callFunc_extern (f := 395) Tryz.func395 (by kernel_rfl) (by kernel_rfl) (by kernel_rfl) (e := Extern.ReflectliteSwapper.swap false) (by kernel_rfl) args W) hless hH1 hb1
  change Calls Tryz.prog 350 _ _ _ at hS
  have HB : Hid (∀ m os (dk : Array α), (sortWorldK enc 4 (w.alloc (.cells #[.slice (some ⟨blk, off, none⟩) d.size c] 40)) blk off m dk os).cell? ⟨w.heap.size, 0, none⟩ = some (.slice (some ⟨blk, off, none⟩) d.size c)) := hbox
  clear hless hH1 hH hlab hbox hW1 hb1
  go_enter Tryz.func294, Tryz.ntmps294
  go_wp2_with (go_at_call 350; refine hS.mono ?_; rintro e w1 ⟨rfl, n, os, hw⟩; have hcell : w1.cell? ⟨w.heap.size, 0, none⟩ = some (.slice (some ⟨blk, off, none⟩) d.size c) := (by rw [hw]; exact HB.out n os _); have HW : Hid (w1 = _) := hw; clear hw)
  go_ret
  exact ⟨rfl, n, _, by rw [HW.out, alloc_eq_grow, ahead_grow, putRowK_grow enc 4 (Sort.ahead w n) _ blk off _ hblk, grow_grow]⟩

set_option maxHeartbeats 4000000 in
set_option maxRecDepth 100000 in
theorem Tryz.byLabels_tiny (p : Option Addr) (n c : Nat) (h1 : n ≤ 1) (w : World) :
    Calls Tryz.prog 294 #[.slice p n c] w fun e w' => e = .returned (.slice p n c) ∧ ∃ os, w' = grow w os := by
  have hS := fun W f hf => Any.sort_SliceStable_tiny Tryz.gt8 40 69 Tryz.siT Tryz.siE (by kernel_rfl) (by kernel_rfl) (by kernel_rfl) (by kernel_rfl) 25 (fun _ => by kernel_rfl) p n c h1 f hf (.func 351) #[] #[.pointer (some ⟨w.heap.size, 0, none⟩)] W
  obtain ⟨f, hf⟩ : ∃ f, Tryz.prog.funcs.findIdx? (·.name == "internal/reflectlite" ++ ".Swapper$" ++ toString (swapperK n Tryz.siE 25)) = some f := by
    rcases Nat.eq_zero_or_pos n with h | h
    · subst h; exact ⟨387, by kernel_rfl⟩
    · obtain rfl : n = 1 := by omega
      exact ⟨388, by kernel_rfl⟩
  have hS2 := fun W => hS W f hf
  change ∀ W, Calls Tryz.prog 350 _ W _ at hS2
  clear hS
  have HB : Hid (∀ os, (grow (w.alloc (.cells #[.slice p n c] 40)) os).cell? ⟨w.heap.size, 0, none⟩ = some (.slice p n c)) := by
    intro os
    rw [cell?_grow _ _ _ (by show w.heap.size < _; rw [alloc_eq_grow, size_grow]; simp)]
    simp
  go_enter Tryz.func294, Tryz.ntmps294
  go_wp2_with (go_at_call 350; refine (hS2 _).mono ?_; rintro e w1 ⟨rfl, os, hw⟩; have hcell : w1.cell? ⟨w.heap.size, 0, none⟩ = some (.slice p n c) := (by rw [hw]; exact HB.out os); have HW : Hid (w1 = _) := hw; clear hw)
  go_ret
  exact ⟨rfl, _, by rw [HW.out, alloc_eq_grow, grow_grow]⟩

end Go.Proofs
