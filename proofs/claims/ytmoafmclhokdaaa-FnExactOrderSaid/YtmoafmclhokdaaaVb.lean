/- VG, joined: an evaluator of the code over typed values, and its soundness, for any program. -/
import Derived.Test.YtmoafmclhokdaaaVa
import Derived.ArgAppend
import Derived.Orders
set_option linter.unusedSimpArgs false
set_option linter.unusedVariables false
/- VG, part 17: append. -/
namespace Vg
open Go

section
variable {P : Program} {C : Cx} {w0 : World} {c0 : C0} {U : Nat → Prop} {E : Env} {a : Act} {w : World} {G : Gh} {ops : List Oper} {g : Option (Nat × Bool)}

/-- The cells of a slice, in one list. -/
def CellsAt (w : World) (v : Value) (n sz : Nat) (cs : List Value) : Prop :=
  cs.length = n * sz ∧ ∃ (ao : Option Addr) (cap : Nat), v = .slice ao n cap ∧ n ≤ cap ∧ (ao = none → n = 0 ∧ cap = 0) ∧ ∀ a, ao = some a → ∀ (j : Nat) (u : Value), cs[j]? = some u → w.cell? (a.add j) = some u

theorem RepS.cells {e : Ty} {l : List e.den} {v : Value} {B : List Nat} (h : RepS w e.sz (Rep w e) l v B) :
    ∃ cs, CellsAt w v l.length e.sz cs ∧ RepL (Rep w e) l cs (B.drop 1) ∧
      (∀ ad n cap, v = .slice (some ad) n cap → 0 < cap → ∃ b off, ad = ⟨b, off, none⟩ ∧ B = b :: B.drop 1 ∧ n = l.length ∧ ∃ c el fz, w.heap[b]? = some (.cells c el fz) ∧ off + cap * e.sz ≤ c.size ∧ cs = (c.toList.drop off).take (l.length * e.sz)) := by
  rcases h with ⟨⟨ao, rfl⟩, rfl, rfl⟩ | ⟨b, off, cap, c, el, fz, Bs, hv, hcap, hb, hsz, rfl, hl⟩
  · exact ⟨[], ⟨by simp, ao, 0, rfl, Nat.le_refl _, fun _ => ⟨rfl, rfl⟩, fun a _ j u hj => by simp at hj⟩, ⟨rfl, rfl⟩, fun ad n cap h hc => by cases h; omega⟩
  · refine ⟨_, ⟨RepL.len (sz := e.sz) (fun x c B h => Rep.len h) hl, some ⟨b, off, none⟩, cap, hv, hcap, by simp, fun a ha j u hj => ?_⟩, hl, fun ad n' cap' h _ => ?_⟩
    · cases ha; rw [Addr.add_lit, cell_row hb]; exact win_get hj
    · rw [hv] at h; cases h; exact ⟨b, off, rfl, rfl, rfl, c, el, fz, hb, hsz, rfl⟩

theorem RepL.cell1 {e : Ty} {l : List e.den} {cs : List Value} {B : List Nat} (h : RepL (Rep w e) l cs B) : ∀ v ∈ cs, v.oneCell' = true := by
  induction l generalizing cs B with
  | nil => rw [h.1]; simp
  | cons x l ih =>
    obtain ⟨c1, c2, B1, B2, rfl, rfl, h1, h2⟩ := h
    intro v hv
    rcases List.mem_append.1 hv with hv | hv
    · exact Rep.one h1 v hv
    · exact ih h2 v hv

theorem w_drew_heap (w : World) : w.drew.heap = w.heap := rfl

/-- What append does. -/
theorem run_app {t ty : TypeId} {el : TypeId} {e : Ty} (hu : P.underlying t = some (.slice el)) (hT : TyFacts P el e) {vx vy : Value} {n m : Nat} {xs ys : List Value}
    (hx : CellsAt w vx n e.sz xs) (hy : CellsAt w vy m e.sz ys) (h1 : ∀ u ∈ ys, u.oneCell' = true) (hb : n + m < 4294967296)
    (hfr : ∀ ad k cap, vx = .slice (some ad) k cap → 0 < cap → ∃ b off, ad = ⟨b, off, none⟩ ∧ ∃ c el', w.heap[b]? = some (.cells c el' (0, 0)) ∧ off + cap * e.sz ≤ c.size) :
    (m = 0 ∧ (Builtin.append_ #[t, t] ty #[vx, vy]).run P w = .ok vx w) ∨
    (∃ b off cap, vx = .slice (some ⟨b, off, none⟩) n cap ∧ n + m ≤ cap ∧ 0 < cap ∧ (Builtin.append_ #[t, t] ty #[vx, vy]).run P w = .ok (.slice (some ⟨b, off, none⟩) (n + m) cap) (w.setCells b (off + n * e.sz) ys)) ∨
    (∃ cap rest, n + m ≤ cap ∧ cap * e.sz ≤ (xs ++ ys ++ rest).length ∧
      (Builtin.append_ #[t, t] ty #[vx, vy]).run P w = .ok (.slice (some ⟨w.heap.size, 0, none⟩) (n + m) cap) (w.drew.alloc (.cells (xs ++ ys ++ rest).toArray el))) := by
  obtain ⟨inf, d, hi, hsz, hz, hby, _⟩ := hT
  have hzs : (mkv e e.zero).cells.size = e.sz := mkv_cells_size e.zero_len (zero_one e)
  obtain ⟨hxl, aox, capx, rfl, hcx, hnx, hcellx⟩ := hx
  obtain ⟨hyl, aoy, capy, rfl, hcy, hny, hcelly⟩ := hy
  rcases Nat.eq_zero_or_pos m with rfl | hm
  · left
    refine ⟨rfl, ?_⟩
    have hf : (Builtin.firstCells inf.size 0 (.slice aoy 0 capy)).run P w = .ok #[] w := by
      cases aoy with
      | none => exact run_firstCells_none ..
      | some ad => exact run_firstCells_some (P := P) w inf.size 0 ad 0 capy [] (by simp) (by simp)
    cases aox with
    | none => simp [Builtin.append_, run_underlying hu, Go.sizeOf, typeInfo, hi, Builtin.lenOf, hf, hcx]
    | some ad => simp [Builtin.append_, run_underlying hu, Go.sizeOf, typeInfo, hi, Builtin.lenOf, hf, hcx, storeCells]
  · right
    cases aoy with
    | none => have := (hny rfl).1; omega
    | some ady =>
      have hcy' := hcelly ady rfl
      cases aox with
      | none =>
        obtain ⟨rfl, rfl⟩ := hnx rfl
        right
        have hr := run_append_nil (P := P) w t ty el inf _ hu hi hz ady m capy ys (by rw [hsz]; exact hyl) hcy' hm (by omega) (by
          have : m * inf.bytes ≤ 4294967296 * 32768 := Nat.mul_le_mul (by omega) hby
          omega)
        have hge := grownCap_ge w m 0 el
        have hxs : xs = [] := by simpa using hxl
        subst hxs
        refine ⟨grownCap w m 0 el, (Builtin.zeroCells (mkv e e.zero).cells (grownCap w m 0 el - m)).toList, by omega, ?_, ?_⟩
        · simp only [List.nil_append, List.length_append, Array.length_toList, size_zeroCells, hzs, hyl, ← Nat.add_mul]
          exact Nat.mul_le_mul_right _ (by omega)
        · rw [hr]; simp only [Nat.zero_add, List.nil_append]; congr 3; apply Array.ext'; simp
      | some adx =>
        have hcx' := hcellx adx rfl
        rcases Nat.lt_or_ge capx (n + m) with hg | hg
        · right
          have hr := run_append_grow (P := P) w t ty el inf _ hu hi hz adx n capx xs (by rw [hsz]; exact hxl) hcx'
            ady m capy ys (by rw [hsz]; exact hyl) hcy' hg (by omega) (growslice_fits hg (by
            have : (n + m) * inf.bytes ≤ 4294967296 * 32768 := Nat.mul_le_mul (by omega) hby
            omega))
          have hge := grownCap_ge w (n + m) capx el
          refine ⟨grownCap w (n + m) capx el, (Builtin.zeroCells (mkv e e.zero).cells (grownCap w (n + m) capx el - (n + m))).toList, hge, ?_, ?_⟩
          · simp only [List.length_append, Array.length_toList, size_zeroCells, hzs, hxl, hyl, ← Nat.add_mul]
            exact Nat.mul_le_mul_right _ (by omega)
          · rw [hr]
            congr 3
            apply Array.ext'
            simp
        · left
          obtain ⟨b, off, rfl, c, el', hheap, hsize⟩ := hfr adx n capx rfl (by omega)
          have hcell' : ∀ j, j < ys.length → off + n * e.sz + j < c.size := by
            intro j hj
            have : (n + m) * e.sz ≤ capx * e.sz := Nat.mul_le_mul_right _ hg
            rw [Nat.add_mul] at this
            omega
          have hr := run_append_room_cells (P := P) w t ty el inf hu hi b off n capx ady m capy ys (by rw [hsz]; exact hyl) hcy' h1 hg
            (fun j hj => by rw [cell_row hheap, hsz]; simp [hcell' j hj]) (fun j hj => frozen_row hheap _)
          rw [hsz] at hr
          exact ⟨b, off, capx, rfl, hg, by omega, hr⟩

theorem Rep.flat : ∀ {τ : Ty} {x : τ.den} {cs : List Value} {B : List Nat}, τ.flat = true → Rep w τ x cs B → B = []
  | .int _, _, _, _, _, h | .bool, _, _, _, _, h | .str, _, _, _, _, h => h.2
  | .sl _, _, _, _, h, _ => by simp [Ty.flat] at h
  | .pair a b, p, cs, B, hf, h => by
    obtain ⟨c1, c2, B1, B2, rfl, rfl, h1, h2⟩ := h
    simp only [Ty.flat, Bool.and_eq_true] at hf
    rw [Rep.flat hf.1 h1, Rep.flat hf.2 h2]; rfl

theorem RepL.flat {e : Ty} (hf : e.flat = true) : ∀ {l : List e.den} {cs : List Value} {B : List Nat}, RepL (Rep w e) l cs B → B = []
  | [], _, _, h => h.2
  | x :: l, cs, B, h => by
    obtain ⟨c1, c2, B1, B2, rfl, rfl, h1, h2⟩ := h
    rw [Rep.flat hf h1, RepL.flat hf h2]; rfl

theorem RowOk.rep2 {e : Ty} {l : List e.den} {v : Value} {m : M} (h : RowOk w G e l v m) (hl : m ≠ .dead) :
    ∃ B, RepS w e.sz (Rep w e) l v B ∧ (∀ b ∈ B, G.col b ∈ m.cols) ∧ ∀ b ∈ B.drop 1, G.col b ∈ inCols m := by
  cases m with
  | row t hs nd =>
    obtain ⟨_, _, B, hB, hc⟩ := h
    cases B with
    | nil => exact ⟨[], hB, by simp, by simp⟩
    | cons x Bs =>
      obtain ⟨h1, _, h3, _⟩ := hc x Bs rfl
      refine ⟨x :: Bs, hB, fun b hb => ?_, fun b hb => h3 b (by simpa using hb)⟩
      rcases List.mem_cons.1 hb with rfl | hb
      · simp [M.cols, h1]
      · simp [M.cols, h3 b hb]
  | sha hs => obtain ⟨⟨B, hB, hc⟩, _⟩ := h; exact ⟨B, hB, hc, fun b hb => hc b (List.mem_of_mem_drop hb)⟩
  | nst b E i o p fr => obtain ⟨⟨B, hB, hc⟩, _⟩ := h; exact ⟨B, hB, fun x hx => by simp [M.cols, hc x hx], fun x hx => by simp [inCols, hc x (List.mem_of_mem_drop hx)]⟩
  | dead => exact absurd rfl hl

theorem inCols_sub {m : M} : ∀ c ∈ inCols m, c ∈ m.cols := by
  cases m <;> simp_all [inCols, M.cols]

/-- What is told of the blocks of an appended row. -/
structure AppB (G : Gh) (kl gv : List Nat) (tk : Nat) (mm : M) (Bx By : List Nat) : Prop where
  hs : ∃ hs nd, mm = .row tk hs nd ∧ (∀ b ∈ Bx.drop 1 ++ By.drop 1, (if G.col b ∈ gv then tk else G.col b) ∈ hs) ∧ (nd = true → (Bx.drop 1 ++ By.drop 1).Nodup)
  head : ∀ b Bs, Bx = b :: Bs → G.col b ∈ kl ∧ G.col b ∈ gv ∧ b ∉ Bx.drop 1 ++ By.drop 1

theorem appM_ok {e : Ty} {l l2 : List e.den} {vx vy : Value} {m m' mm : M} {tk : Nat} {kl gv : List Nat} (hx : RowOk w G e l vx m) (hy : RowOk w G e l2 vy m') (hy0 : m' ≠ .dead)
    (hgx : ∀ c ∈ m.cols, Good U G c) (hgy : ∀ c ∈ m'.cols, Good U G c) (h : appM tk e.flat m m' = some (kl, gv, mm)) :
    (∀ c ∈ kl, 3 ≤ c ∧ Good U G c) ∧ (∀ c ∈ gv, 3 ≤ c ∧ Good U G c) ∧ (∀ c ∈ mm.cols, Good U G c ∨ c = tk) ∧
      ∃ Bx By, RepS w e.sz (Rep w e) l vx Bx ∧ RepS w e.sz (Rep w e) l2 vy By ∧ AppB G kl gv tk mm Bx By := by
  obtain ⟨By, hBy, hcy, hcy2⟩ := hy.rep2 hy0
  have flatB : ∀ {l : List e.den} {v : Value} {B : List Nat}, e.flat = true → RepS w e.sz (Rep w e) l v B → B.drop 1 = [] := by
    intro l v B hf h
    obtain ⟨cs, _, h2, _⟩ := h.cells
    exact RepL.flat hf h2
  unfold appM at h
  split at h
  · rename_i t hs nd
    obtain ⟨ht3, _, Bx, hBx, hcx⟩ := hx
    have htg := hgx t (by simp [M.cols])
    split at h
    · rename_i hf
      cases h
      have e1 := flatB hf hBx
      have e2 := flatB hf hBy
      refine ⟨by simp [ht3, htg], by simp [ht3, htg], by simp [M.cols], Bx, By, hBx, hBy, ⟨⟨[], true, rfl, by simp [e1, e2], by simp [e1, e2]⟩, fun b Bs hb => ?_⟩⟩
      have := (hcx b Bs hb).1
      exact ⟨by simp [this], by simp [this], by simp [e1, e2]⟩
    · split at h
      · cases h
      · rename_i hnf hnc
        simp only [List.contains_eq_mem, decide_eq_true_eq] at hnc
        have hyn : ∀ b Bs, Bx = b :: Bs → b ∉ By := by
          intro b Bs hb hin
          have h1 := hcy b hin
          rw [(hcx b Bs hb).1] at h1
          exact hnc h1
        split at h
        · rename_i a b ha hb
          split at h
          · rename_i hdis
            cases h
            obtain ⟨hnd, h3, hma⟩ := M.own_ge ha
            have hda : ∀ c ∈ b, c ∉ a := by
              simp only [List.all_eq_true, Bool.not_eq_true', List.contains_eq_mem, decide_eq_false_iff_not] at hdis
              exact hdis
            obtain ⟨By', hBy', hny, hcy'⟩ := hy.own hb
            have hb3 : ∀ c ∈ b, 3 ≤ c := by
              intro c hc
              cases m' with
              | row t' hs' nd' =>
                obtain ⟨_, g3, gm⟩ := M.own_ge hb
                rcases (gm c).1 hc with rfl | hc
                · exact hy.1
                · exact g3 c hc
              | sha hs' => cases hs' with
                | nil => simp only [M.own, Option.some.injEq] at hb; subst hb; simp at hc
                | cons => simp [M.own] at hb
              | nst b E i o p fr => simp [M.own] at hb
              | dead => exact absurd rfl hy0
            have ha3 : ∀ c ∈ a, 3 ≤ c := fun c hc => by rcases (hma c).1 hc with rfl | hc; exact ht3; exact h3 c hc
            refine ⟨by simp [ht3, htg], fun c hc => ?_, by simp [M.cols], Bx, By', hBx, hBy', ⟨⟨[tk], true, rfl, fun x hx => ?_, fun _ => ?_⟩, fun x Bs hx => ?_⟩⟩
            · rcases List.mem_append.1 hc with hc | hc
              · exact ⟨ha3 c hc, hgx c (M.own_sub ha c hc)⟩
              · exact ⟨hb3 c hc, hgy c (M.own_sub hb c hc)⟩
            · have : G.col x ∈ a ++ b := by
                rcases List.mem_append.1 hx with hx | hx
                · cases Bx with
                  | nil => simp at hx
                  | cons y Bs =>
                    refine List.mem_append_left _ ((hma _).2 (.inr ?_))
                    exact (hcx y Bs rfl).2.2.1 x (by simpa using hx)
                · exact List.mem_append_right _ (hcy' x (List.mem_of_mem_drop hx))
              simp only [if_pos this]; simp
            · refine List.nodup_append.2 ⟨?_, hny.sublist (List.drop_sublist ..), ?_⟩
              · cases Bx with
                | nil => simp
                | cons y Bs => exact (hcx y Bs rfl).2.2.2 hnd
              · intro x hx y hy e
                subst e
                refine hda _ (hcy' x (List.mem_of_mem_drop hy)) ?_
                cases Bx with
                | nil => simp at hx
                | cons z Bs => exact (hma _).2 (.inr ((hcx z Bs rfl).2.2.1 x (by simpa using hx)))
            · obtain ⟨k1, k2, k3, k4⟩ := hcx x Bs hx
              refine ⟨by simp [k1], ?_, ?_⟩
              · rw [k1]; exact List.mem_append_left _ ((hma t).2 (.inl rfl))
              · intro hin
                rcases List.mem_append.1 hin with hin | hin
                · rw [hx] at hin; exact k2 (by simpa using hin)
                · have h1 := M.own_sub hb _ (hcy' x (List.mem_of_mem_drop hin))
                  rw [k1] at h1; exact hnc h1
          · cases h
        · cases h
          refine ⟨by simp [ht3, htg], by simp [ht3, htg], fun c hc => ?_, Bx, By, hBx, hBy, ⟨⟨_, false, rfl, fun x hx => ?_, by simp⟩, fun x Bs hx => ?_⟩⟩
          · simp only [M.cols, List.mem_cons] at hc
            rcases hc with rfl | hc
            · exact .inr rfl
            · rcases of_ren hc with rfl | ⟨hc, _⟩
              · exact .inr rfl
              · left
                rcases List.mem_append.1 hc with hc | hc
                · exact hgx c (by simp [M.cols, hc])
                · refine hgy c ?_
                  cases m' <;> simp_all [inCols, M.cols]
          · refine mem_ren (ts := [t]) ?_
            rcases List.mem_append.1 hx with hx | hx
            · cases Bx with
              | nil => simp at hx
              | cons y Bs => exact List.mem_append_left _ ((hcx y Bs rfl).2.2.1 x (by simpa using hx))
            · refine List.mem_append_right _ ?_
              exact hcy2 x hx
          · obtain ⟨k1, k2, k3, k4⟩ := hcx x Bs hx
            refine ⟨by simp [k1], by simp [k1], fun hin => ?_⟩
            rcases List.mem_append.1 hin with hin | hin
            · rw [hx] at hin; exact k2 (by simpa using hin)
            · exact hyn x Bs hx (List.mem_of_mem_drop hin)
  · -- nil
    have hBx : ∃ Bx, RepS w e.sz (Rep w e) l vx Bx ∧ Bx = [] := by
      obtain ⟨⟨B, hB, hc⟩, _⟩ := hx
      refine ⟨B, hB, ?_⟩
      cases B with
      | nil => rfl
      | cons x l => exact absurd (hc x (by simp)) (by simp)
    obtain ⟨_, hBx, rfl⟩ := hBx
    split at h
    · rename_i hf
      cases h
      have e2 := flatB hf hBy
      exact ⟨by simp, by simp, by simp [M.cols], [], By, hBx, hBy, ⟨⟨[], true, rfl, by simp [e2], by simp [e2]⟩, by simp⟩⟩
    · split at h
      · rename_i b hb
        cases h
        obtain ⟨By', hBy', hny, hcy'⟩ := hy.own hb
        have hb3 : ∀ c ∈ gv, 3 ≤ c := by
          intro c hc
          cases m' with
          | row t' hs' nd' =>
            obtain ⟨_, g3, gm⟩ := M.own_ge hb
            rcases (gm c).1 hc with rfl | hc
            · exact hy.1
            · exact g3 c hc
          | sha hs' => cases hs' with
            | nil => simp only [M.own, Option.some.injEq] at hb; subst hb; simp at hc
            | cons => simp [M.own] at hb
          | nst b E i o p fr => simp [M.own] at hb
          | dead => exact absurd rfl hy0
        refine ⟨by simp, fun c hc => ⟨hb3 c hc, hgy c (M.own_sub hb c hc)⟩, by simp [M.cols], [], By', hBx, hBy', ⟨⟨[tk], true, rfl, fun x hx => ?_, fun _ => ?_⟩, by simp⟩⟩
        · have := hcy' x (List.mem_of_mem_drop (i := 1) (by simpa only [List.drop_nil, List.nil_append] using hx))
          simp [this]
        · simpa only [List.drop_nil, List.nil_append] using hny.sublist (List.drop_sublist 1 By')
      · cases h
        refine ⟨by simp, by simp, fun c hc => ?_, [], By, hBx, hBy, ⟨⟨_, false, rfl, fun x hx => ?_, by simp⟩, by simp⟩⟩
        · simp only [M.cols, List.mem_cons] at hc
          rcases hc with rfl | hc
          · exact .inr rfl
          · exact .inl (hgy c (inCols_sub c hc))
        · simpa using hcy2 x (by simpa using hx)
  · cases h


theorem RepS.bounds {e : Ty} {l : List e.den} {v : Value} {B : List Nat} (h : RepS w e.sz (Rep w e) l v B) : ∀ b ∈ B, b < w.heap.size :=
  Rep.bounds (τ := .sl e) ⟨v, rfl, h⟩

theorem RepL.world {e : Ty} {w' : World} {l : List e.den} {cs : List Value} {B : List Nat} (hB : ∀ b ∈ B, w'.heap[b]? = w.heap[b]?) (h : RepL (Rep w e) l cs B) : RepL (Rep w' e) l cs B :=
  RepL.mono (fun b => w'.heap[b]? = w.heap[b]?) (fun _ _ _ hP hx => Rep.mono hP hx) hB h

theorem kill_hc (hI : Inv w0 c0 U E a w G) {kl : List Nat} (hkl : ∀ c ∈ kl, 3 ≤ c ∧ Good U G c) : ∀ s, ∀ c ∈ ((E.kill kl).s.getD s .no).hc, c ∉ kl := by
  intro s c hc hin
  rcases SV.hc_sub _ _ hc with hc | hc
  · exact (Env.kill_sc E kl s c hc).2 hin
  · have h1 := (hI.kill kl).bt s c hc
    rw [(hkl c hin).2.2.2] at h1
    exact absurd h1.2.2 (by simp)

theorem app_ok (hC : CxTy P C) (hI : Inv w0 c0 U E a w G) (hR : RI ops E a.tmps) (hg : Gd ops a.tmps g) {tk : Nat} (h3 : 3 ≤ tk) (hU : ¬ U tk) {o : Oper} {c : Call}
    {cd : Bool} {kl gv : List Nat} {t : Nat} {v : SV} (ho : o.op = .call c) (hb : c.callee = .builtin .append) (h : evOp0 C ops E.rd tk g o = some (.app cd kl gv t v)) (hcd : cd = true) :
    t = tk ∧ Yields w0 c0 (fun u => U u ∨ u = tk) ((E.kill kl).give gv t) a ((execOp a.eval o).run P w) v := by
  simp only [evOp0, ho, hb] at h
  unfold evBuiltin at h
  split at h
  · contradiction
  · contradiction
  · contradiction
  · rename_i x y t1 u1 _ ha hts
    have hargs : c.args = #[x, y] := Array.ext' (by simpa using ha)
    have htys : c.argTypes = #[t1, u1] := Array.ext' (by simpa using hts)
    split at h
    · rename_i ti e l m e' l' m' hti hx hy
      split at h
      · rename_i l2 hl2
        have hcast := castV_ok hl2
        simp only [TV.mk.injEq] at hcast
        obtain ⟨he, hl, _⟩ := hcast
        cases he
        cases hl
        split at h
        · rename_i kl' gv' mm hm
          split at h
          · rename_i hcond
            simp only [Bool.and_eq_true, decide_eq_true_eq] at hcond
            obtain ⟨hτ, rfl⟩ := hcond
            simp only [Option.some.injEq, Ef.app.injEq] at h
            obtain ⟨hcd', rfl, rfl, rfl, rfl⟩ := h
            refine ⟨rfl, ?_⟩
            rw [← hcd'] at hcd
            have hlen : l.length + l2.length < 4294967296 := of_decide_eq_true hcd
            have hT := (hC.tt _ ti hti).2
            rw [hτ] at hT
            obtain ⟨hu, hel⟩ := hT
            obtain ⟨mx, hmx, hrx, hdx, hgx⟩ := eval_sl hI hR hg hx
            cases hmx
            obtain ⟨my, hmy, hry, hdy, hgy⟩ := eval_sl hI hR hg hy
            cases hmy
            obtain ⟨hkl, hgv, hmm, Bx, By, hBx, hBy, ⟨⟨hs, nd, rfl, hhs, hnd⟩, hhead⟩⟩ := appM_ok hrx hry hdy hgx hgy hm
            have hrun : ∀ {v' : Value} {w' : World}, ((Builtin.append_ #[u1, u1] o.type #[a.eval x, a.eval y]).run P w = .ok v' w') → (execOp a.eval o).run P w = .ok (.value v') w' := by
              intro v' w' hr
              simp only [execOp, ho]
              simp [resolve, hb, invoke, builtin, hargs, htys, hr]
            obtain ⟨xs, hcx, hlx, hbx⟩ := hBx.cells
            obtain ⟨ys, hcy, hly, _⟩ := hBy.cells
            have hgood : ∀ (G1 : Gh) (mv : Value), (∀ c, U c → G.bx c = false → G1.bx c = false) → ∀ c ∈ (M.row tk hs nd).cols, Good (fun u => U u ∨ u = tk) (G1.give gv' tk mv) c := by
              intro G1 mv h1 c hc
              rcases hmm c hc with ⟨k1, k2, k4⟩ | rfl
              · refine ⟨k1, .inl k2, ?_⟩
                simp only [Gh.give]
                split
                · rfl
                · exact h1 c k2 k4
              · exact ⟨by omega, .inr rfl, by simp [Gh.give]⟩
            have hkl0 := hI.kill kl'
            have hfr : ∀ ad k cap, a.eval x = .slice (some ad) k cap → 0 < cap → ∃ b off, ad = ⟨b, off, none⟩ ∧ ∃ c el', w.heap[b]? = some (.cells c el' (0, 0)) ∧ off + cap * e.sz ≤ c.size := by
              intro ad k cap hv hc0
              obtain ⟨b, off, had, hB, _, c, el', fz, hh, hsz, _⟩ := hbx ad k cap hv hc0
              obtain ⟨k1, k2, _⟩ := hhead b _ hB
              obtain ⟨c', el2, hf⟩ := hI.fresh b (hkl _ k1).1
              rw [hf] at hh; cases hh
              exact ⟨b, off, had, _, _, hf, hsz⟩
            have hdropx : ∀ z ∈ Bx.drop 1, z < w.heap.size := fun z hz => hBx.bounds z (List.mem_of_mem_drop hz)
            have hdropy : ∀ z ∈ By.drop 1, z < w.heap.size := fun z hz => hBy.bounds z (List.mem_of_mem_drop hz)
            rcases run_app (ty := o.type) hu hel hcx hcy (RepL.cell1 hly) hlen hfr with ⟨hm0, hr⟩ | ⟨b, off, cap, hv, hcap, hc0, hr⟩ | ⟨cap, rest, hcap, hsz, hr⟩
            · -- nothing
              have hl2 : l2 = [] := List.length_eq_zero_iff.1 hm0
              subst hl2
              refine ⟨_, _, _, hrun hr, hkl0.give (v := a.eval x) h3 hgv (fun h => absurd h hU), ⟨[a.eval x], rfl, _, rfl, h3, by simp [Gh.give], Bx, ?_, ?_⟩, Ment.d (hgood G _ (fun _ _ h => h)), by rintro _ _ ⟨⟩⟩
              · simpa using hBx
              · intro b Bs hB
                obtain ⟨k1, k2, k4⟩ := hhead b Bs hB
                subst hB
                simp only [List.drop_succ_cons, List.drop_zero, List.mem_append, not_or] at k4
                refine ⟨by simp [Gh.give, k2], k4.1, fun z hz => ?_, fun hn => ?_⟩
                · exact hhs z (List.mem_append_left _ (by simpa using hz))
                · have := (List.nodup_append.1 (hnd hn)).1
                  simpa using this
            · -- there is room
              obtain ⟨b0, off0, had, c, el', hh, hsz⟩ := hfr _ _ cap hv hc0
              cases had
              obtain ⟨b1, off1, had, hB, _, c', el2, fz, hh', _, hxs⟩ := hbx _ _ cap hv hc0
              cases had
              rw [hh] at hh'; cases hh'
              obtain ⟨k1, k2, k4⟩ := hhead b _ hB
              simp only [List.mem_append, not_or] at k4
              have hyl := hcy.1
              have hxl := hcx.1
              have hmul : (l.length + l2.length) * e.sz ≤ cap * e.sz := Nat.mul_le_mul_right _ hcap
              rw [Nat.add_mul] at hmul
              have hrow := setCells_row b (el := el') ys (off + l.length * e.sz) w c hh (by omega)
              have hI2 : Inv w0 c0 U (E.kill kl') a (w.setCells b (off + l.length * e.sz) ys) G := by
                refine hkl0.change (ts := kl') (kill_hc hI hkl) (fun z _ hz => ⟨setCells_other b _ _ w z (fun e => hz (e ▸ k1)), rfl⟩) (fun _ _ => ⟨rfl, rfl⟩) (fun _ h => h) hI.colU
                  (fun z hz => by rw [setCells_size]; exact hI.lt z hz) (fun z hz => ?_) (fun z hz hc => ?_) (fun _ h => h) (by rw [setCells_size]; exact Nat.le_refl _)
                  (setCells_env b _ _ w).1 (setCells_env b _ _ w).2.1 (setCells_env b _ _ w).2.2
                · by_cases e1 : z = b
                  · subst e1; exact ⟨_, _, hrow⟩
                  · rw [setCells_other b _ _ w z e1]; exact hI.fresh z hz
                · have hf := hI.frame z hz hc
                  refine ⟨hf.1, ?_⟩
                  rw [setCells_other b _ _ w z (fun e => ?_)]
                  · exact hf.2
                  · subst e
                    have := (hkl _ k1).1
                    omega
              refine ⟨_, _, _, hrun hr, hI2.give (v := .slice (some ⟨b, off, none⟩) (l.length + l2.length) cap) h3 hgv (fun h => absurd h hU), ⟨[_], rfl, _, rfl, h3, by simp [Gh.give], b :: (Bx.drop 1 ++ By.drop 1), ?_, ?_⟩, Ment.d (hgood G _ (fun _ _ h => h)), by rintro _ _ ⟨⟩⟩
              · refine .inr ⟨b, off, cap, _, el', (0, 0), Bx.drop 1 ++ By.drop 1, by simp, by simpa using hcap, hrow, ?_, rfl, ?_⟩
                · simp; omega
                · have hcells : ((c.toList.take (off + l.length * e.sz) ++ ys ++ c.toList.drop (off + l.length * e.sz + ys.length)).drop off).take ((l ++ l2).length * e.sz) = xs ++ ys := by
                    have htl : (c.toList.take (off + l.length * e.sz)).length = off + l.length * e.sz := by simp; omega
                    rw [List.append_assoc, List.drop_append_of_le_length (by omega), List.drop_take, hxs]
                    rw [show off + l.length * e.sz - off = l.length * e.sz by omega]
                    rw [← List.append_assoc]
                    have hlen1 : (List.take (l.length * e.sz) (List.drop off c.toList) ++ ys).length = (l ++ l2).length * e.sz := by
                      rw [List.length_append, hyl, ← hxs, hxl, List.length_append, Nat.add_mul]
                    rw [← hlen1, List.take_left]
                  rw [hcells]
                  refine RepL.append (RepL.world (fun z hz => setCells_other b _ _ w z (fun e => ?_)) hlx) (RepL.world (fun z hz => setCells_other b _ _ w z (fun e => ?_)) hly)
                  · subst e; exact k4.1 hz
                  · subst e; exact k4.2 hz
              · rintro b' Bs ⟨⟩
                refine ⟨by simp [Gh.give, k2], fun hin => (List.mem_append.1 hin).elim k4.1 k4.2, fun z hz => hhs z hz, fun hn => hnd hn⟩
            · -- a new block
              have hI1 := (hkl0.drawn (w.drawn + 1)).alloc h3 hU (xs ++ ys ++ rest).toArray ti.el (.slice (some ⟨w.heap.size, 0, none⟩) (l.length + l2.length) cap) false
              have hI2 := hI1.give (ts := gv') (t := tk) (v := .slice (some ⟨w.heap.size, 0, none⟩) (l.length + l2.length) cap) h3 (fun c hc => ?_) (fun _ => ⟨by simp [Gh.add], by simp [Gh.add]⟩)
              · have hgv2 : ∀ z, z < w.heap.size → (G.add w.heap.size tk (.slice (some ⟨w.heap.size, 0, none⟩) (l.length + l2.length) cap) false).col z = G.col z := fun z hz => by
                  simp [Gh.add, Nat.ne_of_lt hz]
                refine ⟨_, _, _, hrun hr, hI2.mono (fun c hc => by rcases hc with hc | hc; exact hc; exact .inr hc), ⟨[_], rfl, _, rfl, h3, by simp [Gh.give], w.heap.size :: (Bx.drop 1 ++ By.drop 1), ?_, ?_⟩,
                  Ment.d (hgood _ _ (fun c hc h => by
                    have : c ≠ tk := fun e => hU (e ▸ hc)
                    simp [Gh.add, this, h])), by rintro _ _ ⟨⟩⟩
                · refine .inr ⟨w.heap.size, 0, cap, _, ti.el, (0, 0), Bx.drop 1 ++ By.drop 1, by simp, by simpa using hcap, heap_alloc_new _ _, by simpa using hsz, rfl, ?_⟩
                  have hxl := hcx.1
                  have hyl := hcy.1
                  have hcells : (((xs ++ ys ++ rest).toArray.toList.drop 0).take ((l ++ l2).length * e.sz)) = xs ++ ys := by
                    have hlen1 : (xs ++ ys).length = (l ++ l2).length * e.sz := by rw [List.length_append, hyl, hxl, List.length_append, Nat.add_mul]
                    simp only [List.drop_zero]
                    rw [← hlen1, List.take_left]
                  rw [hcells]
                  exact RepL.append (RepL.world (w := w) (fun z hz => heap_alloc_old w.drew _ z (hdropx z hz)) hlx) (RepL.world (w := w) (fun z hz => heap_alloc_old w.drew _ z (hdropy z hz)) hly)
                · rintro b' Bs ⟨⟩
                  refine ⟨?_, ?_, fun z hz => ?_, fun hn => hnd hn⟩
                  · simp [Gh.give, Gh.add]
                  · intro hin
                    rcases List.mem_append.1 hin with hin | hin
                    · exact Nat.lt_irrefl _ (hdropx _ hin)
                    · exact Nat.lt_irrefl _ (hdropy _ hin)
                  · have hz' : z < w.heap.size := by
                      rcases List.mem_append.1 hz with hz | hz
                      · exact hdropx _ hz
                      · exact hdropy _ hz
                    have := hhs z hz
                    simp only [Gh.give]
                    have hd : (World.heap { w with drawn := w.drawn + 1 }).size = w.heap.size := rfl
                    rw [hd, hgv2 z hz']
                    exact this
              · obtain ⟨k1, k2, k4, k5⟩ := hgv c hc
                have : c ≠ tk := fun e => hU (e ▸ k4)
                exact ⟨k1, k2, .inl k4, by simp [Gh.add, this, k5]⟩
          · cases h
        · cases h
      · cases h
    · cases h
  · cases h

end
end Vg

/- VG, part 18: stores into boxes. -/
namespace Vg
open Go

section
variable {P : Program} {C : Cx} {w0 : World} {c0 : C0} {U : Nat → Prop} {E : Env} {a : Act} {w : World} {G : Gh} {ops : List Oper} {g : Option (Nat × Bool)}

/-- A slot is told anew. -/
theorem Inv.setE (h : Inv w0 c0 U E a w G) (d : Nat) {sv : SV} (hs : SOk w G sv (a.tmps.getD d undef)) (hm : Ment U G sv)
    (hbox : ∀ t u, sv = .box t u → ∀ s u', s ≠ d → E.s.getD s .no ≠ .box t u') : Inv w0 c0 U { E with s := E.s.set d sv } a w G := by
  have hget : ∀ s, ({ E with s := E.s.set d sv } : Env).s.getD s .no = if s = d ∧ d < E.s.length then sv else E.s.getD s .no := fun s => get_set E.s d s sv
  refine { h with len := by simpa using h.len, slots := fun s => ?_, sc := fun s c hc => ?_, bt := fun s c hc => ?_, rt := fun s c hc => ?_, uni := fun s s' t u u' h1 h2 => ?_ }
  · rw [hget]
    split
    · rename_i e; rw [e.1]; exact hs
    · exact h.slots s
  · rw [hget] at hc
    split at hc
    · exact hm.1 c hc
    · exact h.sc s c hc
  · rw [hget] at hc
    split at hc
    · exact hm.2.1 c hc
    · exact h.bt s c hc
  · rw [hget] at hc
    split at hc
    · exact hm.2.2 c hc
    · exact h.rt s c hc
  · rw [hget] at h1 h2
    split at h1 <;> split at h2
    · omega
    · rename_i e1 e2
      by_cases e : s' = d
      · exact absurd ⟨e, e1.2⟩ e2
      · exact absurd h2 (hbox t u h1 s' u' e)
    · rename_i e1 e2
      by_cases e : s = d
      · exact absurd ⟨e, e2.2⟩ e1
      · exact absurd h1 (hbox t u' h2 s u e)
    · exact h.uni s s' t u u' h1 h2

theorem Inv.drop (h : Inv w0 c0 U E a w G) (d : Nat) : Inv w0 c0 U { E with s := E.s.set d .no } a w G :=
  h.setE d (sv := .no) trivial (by simp [Ment, SV.sc, SV.bt, SV.rt]) (by rintro _ _ ⟨⟩)

theorem run_storeAt {t : TypeId} {τ : Ty} (h : TyFacts P t τ) {x : Value} {b o : Nat} {c : Array Value} {el : TypeId} {cs : List Value}
    (hb : w.heap[b]? = some (.cells c el (0, 0))) (hs : o + τ.sz ≤ c.size) (hl : cs.length = τ.sz) (h1 : ∀ v ∈ cs, v.oneCell' = true) (hx : x = .pointer (some ⟨b, o, none⟩)) :
    (Instr.storeAt t x (mkv τ cs)).run P w = .ok () (w.setCells b o cs) := by
  subst hx
  simp only [Instr.storeAt, Instr.sureAddr]
  simpa using run_storeVar' h hb hs hl h1

theorem put_ok (hC : CxTy P C) (hI : Inv w0 c0 U E a w G) (hR : RI ops E a.tmps) (hg : Gd ops a.tmps g) {tk : Nat} {o : Oper} {t : TypeId} {x y : Operand}
    {b s : Nat} {v : TV} (ho : o.op = .store t x y) (h : evOp0 C ops E.rd tk g o = some (.put b s v)) :
    ∃ w', (execOp a.eval o).run P w = .ok .skip w' ∧ Inv w0 c0 U { E with s := E.s.set s (.box b v) } a w' G := by
  simp only [evOp0, ho] at h
  split at h
  · rename_i ti b1 off p τ1 v1 hti harg hv
    split at h
    · rename_i s1 u hbox
      split at h
      · rename_i hc
        simp only [Bool.and_eq_true, decide_eq_true_eq] at hc
        rw [Option.map_eq_some_iff] at h
        obtain ⟨r, hr, h⟩ := h
        simp only [Ef.put.injEq] at h
        obtain ⟨rfl, rfl, rfl⟩ := h
        obtain ⟨h1, h2⟩ := arg_ok hI hR hg harg
        obtain ⟨bk, _, k2, k3⟩ := h1
        obtain ⟨hslot, bk', c, el, g1, g3, g4, g5, g6, g7⟩ := hI.box hbox
        rw [g1] at k2
        simp only [Value.pointer.injEq, Option.some.injEq, Addr.mk.injEq, and_true] at k2
        subst k2
        obtain ⟨⟨cv, hcv, hvv⟩, hvg, hlive⟩ := argD_ok hI hR hg hv
        obtain ⟨q1, q2, q3⟩ := VOk.put hr g6 hvv
        have hlen := VOk.len g6
        have hlv := VOk.len hvv
        simp only [Array.length_toList] at hlen
        rw [hc.1] at q1 q2
        have hT := (hC.tt t ti hti).1
        have hrow := setCells_row bk' (el := el) cv off w c g5 (by omega)
        have hrun := run_storeAt (P := P) (t := t) (τ := ti.τ) hT g5 (o := off) (cs := cv) (by rw [← hc.2]; omega) (by rw [hlv, hc.2]) (VOk.one hvv) k3
        have hbx : G.bx b1 = true := ((hI.bt s1 b1 (by rw [hslot]; simp [SV.bt])).2.2)
        refine ⟨w.setCells bk' off cv, ?_, ?_⟩
        · simp only [execOp, ho, hcv, hc.2]
          simp [hrun]
        · have hne : ∀ k, G.col k ≠ b1 → k ≠ bk' := fun k hk e => hk (e ▸ g4)
          have hD := hI.drop s1
          have hsc : ∀ s, ({ E with s := E.s.set s1 .no } : Env).s.getD s .no = if s = s1 ∧ s1 < E.s.length then .no else E.s.getD s .no := fun s => get_set E.s s1 s .no
          have hhc : ∀ s, ∀ c ∈ (({ E with s := E.s.set s1 .no } : Env).s.getD s .no).hc, c ∉ [b1] := by
            intro s c hcc hin
            simp only [List.mem_singleton] at hin
            subst hin
            have hl1 : s1 < E.s.length := by
              rcases Nat.lt_or_ge s1 E.s.length with h | h
              · exact h
              · rw [List.getD_eq_getElem?_getD, List.getElem?_eq_none h] at hslot; cases hslot
            rw [hsc] at hcc
            split at hcc
            · simp [SV.hc, SV.sc] at hcc
            · rename_i hns
              have hs1 : s ≠ s1 := fun e => hns ⟨e, hl1⟩
              have hno : ∀ sv : SV, (∀ u, sv ≠ .box c u) → (∀ d ∈ sv.sc, G.bx d = false) → c ∉ sv.hc := by
                intro sv h1 h2 h3
                cases sv with
                | box t v =>
                  rcases List.mem_cons.1 h3 with rfl | h3
                  · exact h1 v rfl
                  · have := h2 c h3; rw [hbx] at this; cases this
                | _ =>
                  have := h2 c h3
                  rw [hbx] at this; cases this
              exact hno _ (fun u' e => hs1 (hI.uni s s1 c u' _ e hslot)) (fun d hd => (hI.sc s d hd).2.2) hcc
          have hI2 : Inv w0 c0 U { E with s := E.s.set s1 .no } a (w.setCells bk' off cv) G := by
            refine hD.change (ts := [b1]) hhc (fun k _ hk => ⟨setCells_other bk' _ _ w k (hne k (by simpa using hk)), rfl⟩) (fun _ _ => ⟨rfl, rfl⟩) (fun _ h => h) hI.colU
              (fun k hk => by rw [setCells_size]; exact hI.lt k hk) (fun k hk => ?_) (fun k hk hkc => ?_) (fun _ h => h) (by rw [setCells_size]; exact Nat.le_refl _)
              (setCells_env _ _ _ w).1 (setCells_env _ _ _ w).2.1 (setCells_env _ _ _ w).2.2
            · by_cases e : k = bk'
              · subst e; exact ⟨_, _, hrow⟩
              · rw [setCells_other bk' _ _ w k e]; exact hI.fresh k hk
            · have hf := hI.frame k hk hkc
              refine ⟨hf.1, ?_⟩
              rw [setCells_other bk' _ _ w k (fun e => ?_)]
              · exact hf.2
              · subst e; omega
          have hl1 : s1 < E.s.length := by
            rcases Nat.lt_or_ge s1 E.s.length with h | h
            · exact h
            · rw [List.getD_eq_getElem?_getD, List.getElem?_eq_none h] at hslot; cases hslot
          have hI3 := hI2.setE s1 (sv := .box b1 ⟨u.τ, r.1, r.2⟩) ?_ ?_ ?_
          · simpa using hI3
          · refine ⟨bk', _, el, ?_, g3, ?_, g4, hrow, ?_⟩
            · have := hI.slots s1
              rw [hslot] at this
              obtain ⟨bk2, c2, el2, e1, e2, e3, e4, e5, e6⟩ := this
              rw [e1] at e3
              rw [g1] at e3
              rw [e1]; exact e3.symm
            · have := hI.slots s1
              rw [hslot] at this
              obtain ⟨bk2, c2, el2, e1, e2, e3, e4, e5, e6⟩ := this
              rw [e3]
            · have : cv.length = v1.τ.sz := hlv
              rw [this]
              refine VOk.agree ⟨fun k hk => setCells_other bk' _ _ w k (fun e => ?_), fun _ _ => rfl, fun _ _ => rfl⟩ q1
              subst e
              rw [g4] at hk
              rcases q3 _ hk with hk | hk
              · have := (g7 _ hk).2.2; rw [hbx] at this; cases this
              · have := (hvg _ hk).2.2; rw [hbx] at this; cases this
          · refine ⟨fun d hd => ?_, fun d hd => ?_, by simp [SV.rt]⟩
            · rcases q3 d hd with hd | hd
              · exact g7 d hd
              · exact hvg d hd
            · simp only [SV.bt, List.mem_singleton] at hd
              subst hd
              exact hI.bt s1 d (by rw [hslot]; simp [SV.bt])
          · rintro t' u' ⟨rfl, rfl⟩ s' u2 hs' he
            rw [hsc] at he
            split at he
            · cases he
            · exact hs' (hI.uni s' s1 _ u2 _ he hslot)
      · cases h
    · cases h
  · split at h
    · obtain ⟨_, h⟩ := Option.ite_none_right_eq_some.mp h
      obtain ⟨_, h⟩ := Option.ite_none_left_eq_some.mp h
      obtain ⟨r, _, h⟩ := Option.map_eq_some_iff.mp h
      cases h
    · cases h
  · cases h

end
end Vg

/- VG, part 19: stores into elements of rows. -/
namespace Vg
open Go

theorem splice_drop {k o : Nat} {vs c : List Value} (h : k ≤ o) (hc : o ≤ c.length) : (splice o vs c).drop k = splice (o - k) vs (c.drop k) := by
  unfold splice
  rw [List.append_assoc, List.drop_append_of_le_length (by simp; omega), List.drop_take, List.append_assoc, List.drop_drop]
  congr 3; omega

theorem splice_take {n o : Nat} {vs c : List Value} (h : o + vs.length ≤ n) (hn : n ≤ c.length) : (splice o vs c).take n = splice o vs (c.take n) := by
  unfold splice
  have hl : (c.take o ++ vs).length = o + vs.length := by simp; omega
  rw [List.take_append, hl, List.take_of_length_le (by omega), List.take_take, Nat.min_eq_left (by omega), List.drop_take]

theorem splice_nest {k po sz : Nat} {vs c : List Value} (h : po + vs.length ≤ sz) :
    splice (k + po) vs c = c.take k ++ splice po vs ((c.drop k).take sz) ++ c.drop (k + sz) := by
  unfold splice
  rw [List.take_take, Nat.min_eq_left (by omega), List.drop_take, List.drop_drop]
  have h1 : c.take (k + po) = c.take k ++ (c.drop k).take po := by rw [List.take_add]
  have h2 : c.drop (k + po + vs.length) = ((c.drop (k + (po + vs.length))).take (sz - (po + vs.length))) ++ c.drop (k + sz) := by
    have := (List.take_append_drop (sz - (po + vs.length)) (c.drop (k + (po + vs.length)))).symm
    rw [List.drop_drop] at this
    rw [show k + po + vs.length = k + (po + vs.length) by omega]
    rw [show k + sz = k + (po + vs.length) + (sz - (po + vs.length)) by omega]
    exact this
  rw [h1, h2]
  simp [List.append_assoc]

section
variable {P : Program} {C : Cx} {w0 : World} {c0 : C0} {U : Nat → Prop} {E : Env} {a : Act} {w : World} {G : Gh} {ops : List Oper} {g : Option (Nat × Bool)}

/-- A part put anew: its cells, its blocks. -/
theorem Rep.put : ∀ {p : List Bool} {τ : Ty} {x : τ.den} {sh : Sh} {cs : List Value} {v : TV} {y : τ.den} {s : Sh} {cv : List Value} {B Bv : List Nat},
    putV τ x sh p v = some (y, s) → Rep w τ x cs B → Rep w v.τ v.x cv Bv →
    ∃ Ba Bo Bb, B = Ba ++ Bo ++ Bb ∧ Rep w τ y (splice (τ.off p) cv cs) (Ba ++ Bv ++ Bb) ∧ τ.off p + cv.length ≤ τ.sz
  | [], τ, x, sh, cs, v, y, s, cv, B, Bv, hp, h, hv => by
    have hp' : castV v τ = some y := by
      cases τ <;> (simp only [putV] at hp; split at hp <;> simp_all)
    have e := castV_ok hp'
    have hl := Rep.len h
    have h0 : τ.off [] = 0 := by cases τ <;> rfl
    have hlv := Rep.len hv
    have hτ : v.τ = τ := by rw [e]
    refine ⟨[], B, [], by simp, ?_, by rw [h0, hlv, hτ]; omega⟩
    unfold splice
    rw [h0, hlv, hτ, List.take_zero, List.nil_append, Nat.zero_add, List.drop_of_length_le (by omega), List.append_nil]
    rw [e] at hv
    simpa using hv
  | false :: p, .pair a b, x, .pair s1 s2, cs, v, y, s, cv, B, Bv, hp, h, hv => by
    obtain ⟨c1, c2, B1, B2, rfl, rfl, h1, h2⟩ := h
    simp only [putV] at hp
    split at hp
    · rename_i y1 s1' hq
      cases hp
      obtain ⟨Ba, Bo, Bb, rfl, hr, hle⟩ := Rep.put hq h1 hv
      have hl := Rep.len h1
      refine ⟨Ba, Bo, Bb ++ B2, by simp, ⟨_, c2, _, B2, ?_, by simp, hr, h2⟩, by simp only [Ty.off, Ty.sz]; omega⟩
      simp only [Ty.off, splice]
      rw [List.take_append_of_le_length (by omega), List.drop_append_of_le_length (by omega)]
      simp
    · cases hp
  | true :: p, .pair a b, x, .pair s1 s2, cs, v, y, s, cv, B, Bv, hp, h, hv => by
    obtain ⟨c1, c2, B1, B2, rfl, rfl, h1, h2⟩ := h
    simp only [putV] at hp
    split at hp
    · rename_i y1 s1' hq
      cases hp
      obtain ⟨Ba, Bo, Bb, rfl, hr, hle⟩ := Rep.put hq h2 hv
      have hl := Rep.len h1
      refine ⟨B1 ++ Ba, Bo, Bb, by simp, ⟨c1, _, B1, _, ?_, by simp, h1, hr⟩, by simp only [Ty.off, Ty.sz]; omega⟩
      simp only [Ty.off, splice]
      rw [← hl, List.take_append, List.take_of_length_le (by omega), List.drop_append, List.drop_of_length_le (by omega)]
      simp [Nat.add_assoc]
    · cases hp
  | b :: p, .int _, _, _, _, _, _, _, _, _, _, hp, _, _ | b :: p, .bool, _, _, _, _, _, _, _, _, _, hp, _, _ | b :: p, .str, _, _, _, _, _, _, _, _, _, hp, _, _ | b :: p, .sl _, _, _, _, _, _, _, _, _, _, hp, _, _ => by simp [putV] at hp
  | false :: p, .pair _ _, _, .leaf, _, _, _, _, _, _, _, hp, _, _ | false :: p, .pair _ _, _, .sl _, _, _, _, _, _, _, _, hp, _, _ => by simp [putV] at hp
  | true :: p, .pair _ _, _, .leaf, _, _, _, _, _, _, _, hp, _, _ | true :: p, .pair _ _, _, .sl _, _, _, _, _, _, _, _, hp, _, _ => by simp [putV] at hp

/-- Where the heads of a token's row alone may name it. -/
def M.clear (b : Nat) : M → Prop
  | .row u hs _ => u = b ∨ b ∉ hs
  | .sha hs => b ∉ hs
  | .nst b' _ _ _ _ _ => b' ≠ b
  | .dead => True

def Sh.clear (b : Nat) : Sh → Prop
  | .leaf => True
  | .sl m => m.clear b
  | .pair x y => x.clear b ∧ y.clear b

theorem killSha_clear (b : Nat) (m : M) : (m.killSha b).clear b := by
  cases m with
  | row u hs nd =>
    simp only [M.killSha]
    split
    · rename_i h; exact .inl h
    · split
      · trivial
      · rename_i h; right; simpa using h
  | sha hs =>
    simp only [M.killSha]
    split
    · trivial
    · rename_i h; simpa [M.clear] using h
  | nst b' e i o p fr =>
    simp only [M.killSha]
    split
    · trivial
    · rename_i h; exact h
  | dead => trivial

theorem Sh.killSha_clear (b : Nat) : ∀ sh : Sh, (sh.map (M.killSha b)).clear b
  | .leaf => trivial
  | .sl m => Vg.killSha_clear b m
  | .pair x y => ⟨Sh.killSha_clear b x, Sh.killSha_clear b y⟩

theorem killSha_cols (b : Nat) (m : M) : ∀ c ∈ (m.killSha b).cols, c ∈ m.cols := by
  intro c hc
  cases m with
  | row u hs nd =>
    simp only [M.killSha] at hc
    split at hc
    · exact hc
    · split at hc
      · simp [M.cols] at hc
      · exact hc
  | sha hs =>
    simp only [M.killSha] at hc
    split at hc
    · simp [M.cols] at hc
    · exact hc
  | nst b' e i o p fr =>
    simp only [M.killSha] at hc
    split at hc
    · simp [M.cols] at hc
    · exact hc
  | dead => exact hc

theorem killSha_ok (b : Nat) : MapOk w U G U G (M.killSha b) (fun _ => true) (fun hs => if hs.contains b then none else some hs) where
  row e l v m h _ := by
    cases m with
    | row u hs nd =>
      simp only [M.killSha]
      split
      · exact h
      · split
        · exact h.one
        · exact h
    | sha hs =>
      simp only [M.killSha]
      split
      · exact h.one
      · exact h
    | nst b' E i o p fr =>
      simp only [M.killSha]
      split
      · exact h.one
      · exact h
    | dead => exact h
  good m h c hc := h c (killSha_cols b m c hc)
  rd hs hs' h hg := by
    split at h
    · cases h
    · cases h; exact ⟨hg, fun b hb => hb⟩
  hdr _ _ := rfl
  bx t _ hb := ⟨hb, fun _ h => h⟩
  ru _ _ h := h
  mono _ h := h


/-- The row's new elements are told to all who have its head. -/
theorem setIn_ok {b : Nat} {e : Ty} {y : List e.den} {m : M} {w' : World} (hnew : RowOk w' G e y (G.hdr b) m) (hag : ∀ k, 0 < G.col k → G.col k ≠ b → w'.heap[k]? = w.heap[k]?) :
    ∀ {τ : Ty} {x : τ.den} {sh : Sh} {cs : List Value}, VOk w G τ x sh cs → sh.clear b → (∀ c ∈ sh.cols, 0 < c) →
      VOk w' G τ (setIn b e y m τ x sh).1 (setIn b e y m τ x sh).2 cs
  | .int _, _, .leaf, _, h, _, _ => h
  | .bool, _, .leaf, _, h, _, _ => h
  | .str, _, .leaf, _, h, _, _ => h
  | .sl e', l, .sl (.row u hs nd), cs, h, hc, hp => by
    obtain ⟨v, rfl, hr⟩ := h
    simp only [setIn]
    split
    · rename_i hu
      subst hu
      split
      · rename_i he
        subst he
        refine ⟨v, rfl, ?_⟩
        have : v = G.hdr u := hr.2.1.symm
        rw [this]
        exact hnew
      · exact ⟨v, rfl, hr.one⟩
    · rename_i hu
      refine ⟨v, rfl, RowOk.agree ⟨fun k hk => hag k (hp _ hk) (fun e1 => ?_), fun _ _ => rfl, fun _ _ => rfl⟩ hr⟩
      simp only [M.cols, List.mem_cons] at hk
      rcases hc with hc | hc
      · exact hu hc
      · rcases hk with hk | hk
        · exact hu (hk.symm.trans e1)
        · exact hc (e1 ▸ hk)
  | .sl e', l, .sl (.sha hs), cs, h, hc, hp => by
    obtain ⟨v, rfl, hr⟩ := h
    refine ⟨v, rfl, RowOk.agree ⟨fun k hk => hag k (hp _ hk) (fun e1 => ?_), fun _ _ => rfl, fun _ _ => rfl⟩ hr⟩
    exact hc (e1 ▸ hk)
  | .sl e', l, .sl (.nst b' E i o p fr), cs, h, hc, hp => by
    obtain ⟨v, rfl, hr⟩ := h
    refine ⟨v, rfl, RowOk.agree ⟨fun k hk => hag k (hp _ hk) (fun e1 => ?_), fun _ _ => rfl, fun _ _ => rfl⟩ hr⟩
    simp only [M.cols, List.mem_singleton] at hk
    exact hc (hk.symm.trans e1)
  | .sl e', l, .sl .dead, cs, h, hc, hp => by
    obtain ⟨v, rfl, hr⟩ := h
    exact ⟨v, rfl, hr⟩
  | .pair a b', p, .pair s1 s2, cs, h, hc, hp => by
    obtain ⟨c1, c2, rfl, h1, h2⟩ := h
    exact ⟨c1, c2, rfl, setIn_ok hnew hag h1 hc.1 (fun c h => hp c (by simp [Sh.cols, h])), setIn_ok hnew hag h2 hc.2 (fun c h => hp c (by simp [Sh.cols, h]))⟩
  | .int _, _, .sl _, _, h, _, _ | .int _, _, .pair _ _, _, h, _, _ | .bool, _, .sl _, _, h, _, _ | .bool, _, .pair _ _, _, h, _, _
  | .str, _, .sl _, _, h, _, _ | .str, _, .pair _ _, _, h, _, _ | .sl _, _, .leaf, _, h, _, _ | .sl _, _, .pair _ _, _, h, _, _
  | .pair _ _, _, .leaf, _, h, _, _ | .pair _ _, _, .sl _, _, h, _, _ => h.elim

theorem setIn_cols {b : Nat} {e : Ty} {y : List e.den} {m : M} : ∀ {τ : Ty} {x : τ.den} {sh : Sh}, ∀ c ∈ (setIn b e y m τ x sh).2.cols, c ∈ sh.cols ∨ c ∈ m.cols
  | .sl e', l, .sl (.row u hs nd), c, h => by
    simp only [setIn] at h
    split at h
    · split at h
      · exact .inr h
      · simp [Sh.cols, M.cols] at h
    · exact .inl h
  | .pair a b', p, .pair s1 s2, c, h => by
    simp only [setIn, Sh.cols, List.mem_append] at h ⊢
    rcases h with h | h
    · exact (setIn_cols c h).imp .inl id
    · exact (setIn_cols c h).imp .inr id
  | .sl _, _, .sl (.nst _ _ _ _ _ _), _, h | .sl _, _, .leaf, _, h | .sl _, _, .pair _ _, _, h | .sl _, _, .sl (.sha _), _, h | .sl _, _, .sl .dead, _, h
  | .int _, _, .leaf, _, h | .int _, _, .sl _, _, h | .int _, _, .pair _ _, _, h | .bool, _, .leaf, _, h | .bool, _, .sl _, _, h | .bool, _, .pair _ _, _, h
  | .str, _, .leaf, _, h | .str, _, .sl _, _, h | .str, _, .pair _ _, _, h | .pair _ _, _, .leaf, _, h | .pair _ _, _, .sl _, _, h => .inl h

def SV.clear (b : Nat) : SV → Prop
  | .d v | .box _ v => v.sh.clear b
  | .tup l => ∀ v ∈ l, v.sh.clear b
  | .g _ _ _ v => v.clear b
  | _ => True

theorem SV.killSha_clear (b : Nat) : ∀ s : SV, (s.killSha b).clear b
  | .no | .ptr .. => trivial
  | .d v => Sh.killSha_clear b v.sh
  | .box t v => Sh.killSha_clear b v.sh
  | .ept .. => by simp only [SV.killSha, SV.mapM]; split <;> trivial
  | .rdp hs v => by simp only [SV.killSha, SV.mapM]; split <;> trivial
  | .tup l => by
    intro v hv
    simp only [List.mem_map] at hv
    obtain ⟨u, _, rfl⟩ := hv
    exact Sh.killSha_clear b u.sh
  | .g j w' act v => SV.killSha_clear b v

theorem SOk.setRow {b : Nat} {e : Ty} {y : List e.den} {m : M} {w' : World} (hnew : RowOk w' G e y (G.hdr b) m) (hb : G.bx b = false) (hag : ∀ k, 0 < G.col k → G.col k ≠ b → w'.heap[k]? = w.heap[k]?) :
    ∀ {s : SV} {mv : Value}, SOk w G s mv → s.clear b → Ment U G s → SOk w' G (s.setRow b e y m) mv
  | .no, _, _, _, _ => trivial
  | .d v, mv, ⟨cs, h1, h2⟩, hc, hm => ⟨cs, h1, setIn_ok hnew hag h2 hc (fun c h => (hm.1 c h).1)⟩
  | .box t v, mv, ⟨bk, c, el, h1, h2, h3, h4, h5, h6⟩, hc, hm => by
    have ht := hm.2.1 t (by simp [SV.bt])
    refine ⟨bk, c, el, h1, h2, h3, h4, ?_, setIn_ok hnew hag h6 hc (fun c h => (hm.1 c h).1)⟩
    rw [hag bk (by rw [h4]; exact ht.1) (fun e => ?_)]
    · exact h5
    · rw [h4] at e; rw [e, hb] at ht; cases ht.2.2
  | .ptr t o p τ, mv, h, _, _ => h
  | .ept t e' i o p τ, mv, h, _, _ => h
  | .rdp hs v, mv, ⟨bk, o, c, el, fz, h1, h2, h3, h4, h5⟩, _, hm => by
    simp only [SV.setRow]
    split
    · trivial
    · rename_i hnc
      simp only [List.contains_eq_mem, decide_eq_true_eq, List.mem_append, not_or] at hnc
      have ha : ∀ k, G.col k ∈ hs ++ v.sh.cols → w'.heap[k]? = w.heap[k]? := fun k hk => hag k (hm.1 _ hk).1 (fun e => by
        rw [e] at hk
        rcases List.mem_append.1 hk with hk | hk
        · exact hnc.1 hk
        · exact hnc.2 hk)
      exact ⟨bk, o, c, el, fz, h1, (ha bk (by simp [h4])).trans h2, h3, h4, VOk.agree ⟨fun k hk => ha k (by simp [hk]), fun _ _ => rfl, fun _ _ => rfl⟩ h5⟩
  | .tup l, mv, ⟨vs, h1, h2, h3⟩, hc, hm => by
    refine ⟨vs, h1, by simp [h2], fun i v hi => ?_⟩
    rw [List.getElem?_map, Option.map_eq_some_iff] at hi
    obtain ⟨v', hi', rfl⟩ := hi
    obtain ⟨u, cs, hu, hmv, hv⟩ := h3 i v' hi'
    exact ⟨u, cs, hu, hmv, setIn_ok hnew hag hv (hc v' (List.mem_of_getElem? hi')) (fun c hcc => (hm.1 c (List.mem_flatMap.2 ⟨v', List.mem_of_getElem? hi', hcc⟩)).1)⟩
  | .g j w2 false v, mv, ⟨h1, h2⟩, hc, hm => ⟨fun e => absurd e (by simp), h2⟩
  | .g j w2 true v, mv, ⟨h1, h2⟩, hc, hm => ⟨fun e => ⟨by
      have := (h1 e).1
      cases v with
      | box t v => simp [SV.isBox] at this
      | rdp hs v => simp only [SV.setRow]; split <;> rfl
      | _ => rfl, SOk.setRow (s := v) hnew hb hag (h1 e).2 hc (by simpa [Ment, SV.sc, SV.bt, SV.rt] using hm)⟩, h2⟩

theorem Ment.setRow {b : Nat} {e : Ty} {y : List e.den} {m : M} (hm0 : ∀ c ∈ m.cols, Good U G c) : ∀ {s : SV}, Ment U G s → Ment U G (s.setRow b e y m)
  | .no, h | .ptr .., h | .ept .., h => h
  | .d v, hm => Ment.d fun c hc => (setIn_cols c hc).elim (hm.1 c) (hm0 c)
  | .box t v, hm => ⟨fun c hc => (setIn_cols c hc).elim (hm.1 c) (hm0 c), hm.2.1, hm.2.2⟩
  | .rdp hs v, hm => by
    simp only [SV.setRow]
    split
    · simp [Ment, SV.sc, SV.bt, SV.rt]
    · exact hm
  | .tup l, hm => by
    refine ⟨fun c hc => ?_, by simp [SV.setRow, SV.bt], by simp [SV.setRow, SV.rt]⟩
    simp only [SV.setRow, SV.sc, List.flatMap_map, List.mem_flatMap] at hc
    obtain ⟨v, hv, hc⟩ := hc
    exact (setIn_cols c hc).elim (fun h => hm.1 c (List.mem_flatMap.2 ⟨v, hv, h⟩)) (hm0 c)
  | .g j w2 true v, hm => by
    have := Ment.setRow (b := b) (e := e) (y := y) (s := v) hm0 (by simpa [Ment, SV.sc, SV.bt, SV.rt] using hm)
    simpa [Ment, SV.setRow, SV.sc, SV.bt, SV.rt] using this
  | .g j w2 false v, hm => by simp [Ment, SV.setRow, SV.sc, SV.bt, SV.rt]

theorem setRow_box {b : Nat} {e : Ty} {y : List e.den} {m : M} {s : SV} {t : Nat} {u : TV} (h : s.setRow b e y m = .box t u) : ∃ u', s = .box t u' := by
  cases s with
  | box t' v => simp only [SV.setRow, SV.box.injEq] at h; exact ⟨v, by rw [h.1]⟩
  | rdp hs v => simp only [SV.setRow] at h; split at h <;> cases h
  | _ => simp [SV.setRow] at h

theorem Inv.setRow (hI : Inv w0 c0 U E a w G) {b : Nat} {e : Ty} {y : List e.den} {m : M} {w' : World} (hnew : RowOk w' G e y (G.hdr b) m) (hb : G.bx b = false) (hb3 : 3 ≤ b)
    (hag : ∀ k, G.col k ≠ b → w'.heap[k]? = w.heap[k]?) (hcl : ∀ s, (E.s.getD s .no).clear b) (hm0 : ∀ c ∈ m.cols, Good U G c)
    (fresh : ∀ k, G.col k = b → ∃ c el, w'.heap[k]? = some (.cells c el (0, 0))) (size : w.heap.size = w'.heap.size)
    (os : w'.os = w.os) (tape : w'.tape = w.tape) (output : w'.output = w.output) : Inv w0 c0 U { E with s := E.s.map (SV.setRow b e y m) } a w' G := by
  have hg : ∀ s, ({ E with s := E.s.map (SV.setRow b e y m) } : Env).s.getD s .no = (E.s.getD s .no).setRow b e y m := fun s => getD_map (T := SV.setRow b e y m) rfl s
  have hm : ∀ s, Ment U G ((E.s.getD s .no).setRow b e y m) := fun s => Ment.setRow hm0 (hI.ment s)
  refine ⟨by simpa using hI.len, fun s => ?_, fun s => ?_, fun s => ?_, fun s => ?_, fun s s' t v v' h1 h2 => ?_, hI.colU, fun k hk => by rw [← size]; exact hI.lt k hk, fun k hk => ?_, fun k hk hc => ?_, hI.one, by rw [← size]; exact hI.size, os.trans hI.os, tape.trans hI.tape, output.trans hI.output, hI.defers, hI.two, hI.hk⟩
  · rw [hg]; exact SOk.setRow hnew hb (fun k _ hk => hag k hk) (hI.slots s) (hcl s) (hI.ment s)
  · rw [hg]; exact (hm s).1
  · rw [hg]; exact (hm s).2.1
  · rw [hg]; exact (hm s).2.2
  · rw [hg] at h1 h2
    obtain ⟨u, hu⟩ := setRow_box h1
    obtain ⟨u', hu'⟩ := setRow_box h2
    exact hI.uni s s' t u u' hu hu'
  · by_cases e : G.col k = b
    · exact fresh k e
    · rw [hag k e]; exact hI.fresh k hk
  · have hf := hI.frame k hk hc
    exact ⟨hf.1, by rw [hag k (by omega)]; exact hf.2⟩

end
end Vg

/- VG, part 20: stores into elements of rows, joined. -/
namespace Vg
open Go

section
variable {P : Program} {C : Cx} {w0 : World} {c0 : C0} {U : Nat → Prop} {E : Env} {a : Act} {w : World} {G : Gh} {ops : List Oper} {g : Option (Nat × Bool)}

theorem Sh.own_ge : ∀ {τ : Ty} {x : τ.den} {sh : Sh} {cs : List Value} {ts : List Nat}, VOk w G τ x sh cs → sh.own = some ts → ∀ c ∈ ts, 3 ≤ c
  | .int _, _, .leaf, _, ts, _, h, c, hc | .bool, _, .leaf, _, ts, _, h, c, hc | .str, _, .leaf, _, ts, _, h, c, hc => by
    simp only [Sh.own, Option.some.injEq] at h; subst h; simp at hc
  | .sl e, l, .sl m, cs, ts, h, ho, c, hc => by
    obtain ⟨v, rfl, hr⟩ := h
    simp only [Sh.own] at ho
    cases m with
    | row t hs nd =>
      obtain ⟨_, g3, gm⟩ := M.own_ge ho
      rcases (gm c).1 hc with rfl | hc
      · exact hr.1
      · exact g3 c hc
    | sha hs => cases hs with
      | nil => simp only [M.own, Option.some.injEq] at ho; subst ho; simp at hc
      | cons => simp [M.own] at ho
    | nst b E i o p fr => simp [M.own] at ho
    | dead => simp [M.own] at ho
  | .pair a b, p, .pair s1 s2, cs, ts, h, ho, c, hc => by
    obtain ⟨c1, c2, rfl, h1, h2⟩ := h
    simp only [Sh.own] at ho
    split at ho
    · rename_i x y hx hy
      split at ho
      · simp only [Option.some.injEq] at ho; subst ho
        rcases List.mem_append.1 hc with hc | hc
        · exact Sh.own_ge h1 hx c hc
        · exact Sh.own_ge h2 hy c hc
      · cases ho
    · cases ho
  | .int _, _, .sl _, _, _, h, _, _, _ | .int _, _, .pair _ _, _, _, h, _, _, _ | .bool, _, .sl _, _, _, h, _, _, _ | .bool, _, .pair _ _, _, _, h, _, _, _
  | .str, _, .sl _, _, _, h, _, _, _ | .str, _, .pair _ _, _, _, h, _, _, _ | .sl _, _, .leaf, _, _, h, _, _, _ | .sl _, _, .pair _ _, _, _, h, _, _, _
  | .pair _ _, _, .leaf, _, _, h, _, _, _ | .pair _ _, _, .sl _, _, _, h, _, _, _ => h.elim

/-- What a store into an element makes of the row's memory. -/
theorem elemM_ok {τ : Ty} {b : Nat} {hs : List Nat} {nd : Bool} {v : TV} {cv : List Value} {e : Ty} {l : List e.den} {hv : Value} {gv : List Nat} {m : M}
    (hr : RowOk w G e l hv (.row b hs nd)) (hg : ∀ c ∈ b :: hs, Good U G c) (hvv : VOk w G v.τ v.x v.sh cv) (hvg : ∀ c ∈ v.sh.cols, Good U G c) (hl : v.sh.live = true) (hτ : v.τ = τ)
    (own : Option (List Nat)) (hown : own = if τ.flat then none else match (M.row b hs nd).own, v.sh.own with
            | some a, some c => if c.all (!a.contains ·) then some ((a ++ c).filter (· ≠ b)) else none
            | _, _ => none)
    (hgv : gv = own.getD []) (hm : m = if own.isSome then .row b [b] true else if τ.flat then .row b hs nd else .row b (hs ++ v.sh.cols).eraseDups false)
    (hno : (own.isNone && v.sh.cols.contains b) = false) :
    (∀ c ∈ gv, 3 ≤ c ∧ Good U G c) ∧ b ∉ gv ∧ (∀ c ∈ m.cols, Good U G c) ∧
    ∃ B Bv hs' nd', RepS w e.sz (Rep w e) l hv B ∧ Rep w v.τ v.x cv Bv ∧ m = .row b hs' nd' ∧ 
      ∀ h Bs, B = h :: Bs → G.col h = b ∧ h ∉ Bs ∧ h ∉ Bv ∧ ∀ Bs', (∃ A Bo D, Bs = A ++ Bo ++ D ∧ Bs' = A ++ Bv ++ D) →
        (∀ x ∈ Bs', (if G.col x ∈ gv then b else G.col x) ∈ hs') ∧ (nd' = true → Bs'.Nodup) := by
  obtain ⟨hb3, hh, B, hB, hc⟩ := hr
  by_cases hf : τ.flat = true
  · rw [if_pos hf] at hown
    subst hown
    simp only [Option.getD_none] at hgv
    subst hgv
    simp only [Option.isSome_none, Bool.false_eq_true, if_false, hf, if_true] at hm
    subst hm
    obtain ⟨Bv, hBv, _⟩ := hvv.rep hl
    have : Bv = [] := Rep.flat (by rw [hτ]; exact hf) hBv
    subst this
    refine ⟨by simp, by simp, fun c hcc => hg c hcc, B, [], hs, nd, hB, hBv, rfl, fun h Bs hBs => ?_⟩
    obtain ⟨k1, k2, k3, k4⟩ := hc h Bs hBs
    refine ⟨k1, k2, by simp, ?_⟩
    rintro Bs' ⟨A, Bo, D, rfl, rfl⟩
    refine ⟨fun x hx => ?_, fun hn => ?_⟩
    · simp only [List.not_mem_nil, if_false]
      exact k3 x (by simp at hx ⊢; rcases hx with hx | hx <;> simp [hx])
    · exact (k4 hn).sublist (by
        simp only [List.append_nil]
        exact List.Sublist.append (List.sublist_append_left ..) (List.Sublist.refl _))
  · rw [if_neg hf] at hown
    cases ho : own with
    | some ts =>
      rw [ho] at hown hgv hm
      simp only [Option.getD_some] at hgv
      simp only [Option.isSome_some, if_true] at hm
      subst hgv hm
      split at hown
      · rename_i a' c ha' hcv
        split at hown
        · rename_i hdis
          cases hown
          obtain ⟨hnd, h3, hma⟩ := M.own_ge ha'
          have hda : ∀ z ∈ c, z ∉ a' := by
            simp only [List.all_eq_true, Bool.not_eq_true', List.contains_eq_mem, decide_eq_false_iff_not] at hdis
            exact hdis
          obtain ⟨Bv, hBv, hnv, hcvv⟩ := hvv.own hcv
          have hc3 : ∀ z ∈ c, 3 ≤ z := Sh.own_ge hvv hcv
          refine ⟨fun z hz => ?_, by simp, by simp only [M.cols]; intro z hz; simp only [List.mem_cons, List.not_mem_nil, or_false, or_self] at hz; subst hz; exact hg z (by simp), B, Bv, [b], true, hB, hBv, rfl, fun h Bs hBs => ?_⟩
          · simp only [List.mem_filter, List.mem_append] at hz
            rcases hz.1 with h | h
            · refine ⟨?_, hg z ?_⟩
              · rcases (hma z).1 h with rfl | h
                · exact hb3
                · exact h3 z h
              · rcases (hma z).1 h with rfl | h
                · simp
                · simp [h]
            · exact ⟨hc3 z h, hvg z (Sh.own_sub hcv z h)⟩
          · obtain ⟨k1, k2, k3, k4⟩ := hc h Bs hBs
            refine ⟨k1, k2, fun hin => ?_, ?_⟩
            · have := hcvv h hin
              rw [k1] at this
              exact hda b this ((hma b).2 (.inl rfl))
            · rintro Bs' ⟨A, Bo, D, rfl, rfl⟩
              have hn := k4 hnd
              have hxa : ∀ x ∈ A ++ Bo ++ D, G.col x ∈ a' := fun x hx => (hma _).2 (.inr (k3 x hx))
              refine ⟨fun x hx => ?_, fun _ => ?_⟩
              · have hx' : G.col x ∈ a' ∨ G.col x ∈ c := by
                  simp only [List.mem_append] at hx
                  rcases hx with (hx | hx) | hx
                  · exact .inl (hxa x (by simp [hx]))
                  · exact .inr (hcvv x hx)
                  · exact .inl (hxa x (by simp [hx]))
                by_cases e : G.col x = b
                · simp [e]
                · have hin : G.col x ∈ (a' ++ c).filter (· ≠ b) := by
                    simp only [List.mem_filter, List.mem_append, ne_eq, decide_not, Bool.not_eq_true', decide_eq_false_iff_not]
                    exact ⟨hx', e⟩
                  rw [if_pos hin]; simp
              · have hdj : ∀ x ∈ Bv, x ∉ A ++ Bo ++ D := fun x hx hin => hda _ (hcvv x hx) (hxa x hin)
                rw [List.nodup_append, List.nodup_append] at hn
                obtain ⟨⟨n1, n2, n3⟩, n4, n5⟩ := hn
                rw [List.nodup_append, List.nodup_append]
                refine ⟨⟨n1, hnv, fun x hx y hy e => hdj y hy (by subst e; simp [hx])⟩, n4, fun x hx y hy e => ?_⟩
                rcases List.mem_append.1 hx with hx | hx
                · exact n5 x (by simp [hx]) y hy e
                · exact hdj x hx (by subst e; simp [hy])
        · cases hown
      · cases hown
    | none =>
      rw [ho] at hgv hm hno
      simp only [Option.getD_none] at hgv
      subst hgv
      simp only [Option.isSome_none, Bool.false_eq_true, if_false, hf] at hm
      subst hm
      simp only [Option.isNone_none, Bool.true_and, List.contains_eq_mem, decide_eq_false_iff_not] at hno
      obtain ⟨Bv, hBv, hcv⟩ := hvv.rep hl
      refine ⟨by simp, by simp, fun c hcc => ?_, B, Bv, _, false, hB, hBv, rfl, fun h Bs hBs => ?_⟩
      · simp only [M.cols, List.mem_cons, List.mem_eraseDups, List.mem_append] at hcc
        rcases hcc with rfl | hcc | hcc
        · exact hg c (by simp)
        · exact hg c (by simp [hcc])
        · exact hvg c hcc
      · obtain ⟨k1, k2, k3, k4⟩ := hc h Bs hBs
        refine ⟨k1, k2, fun hin => ?_, ?_⟩
        · have := hcv h hin
          rw [k1] at this
          exact hno this
        · rintro Bs' ⟨A, Bo, D, rfl, rfl⟩
          refine ⟨fun x hx => ?_, by simp⟩
          simp only [List.not_mem_nil, if_false, List.mem_eraseDups, List.mem_append]
          simp only [List.mem_append] at hx
          rcases hx with (hx | hx) | hx
          · exact .inl (k3 x (by simp [hx]))
          · exact .inr (hcv x hx)
          · exact .inl (k3 x (by simp [hx]))


theorem Inv.giveM (hI : Inv w0 c0 U E a w G) {ts : List Nat} {t : Nat} {v : Value} (h3 : 3 ≤ t) (hts : ∀ c ∈ ts, 3 ≤ c ∧ Good U G c) (hU : U t) (hv : v = G.hdr t) (hb : G.bx t = false) :
    Inv w0 c0 U { E with s := E.s.map (SV.give ts t) } a w (G.give ts t v) := by
  refine (hI.map (f := M.give ts t) (give_ok (w := w) (v := v) h3 hts (fun _ => ⟨hv, hb⟩)) ?_ ?_).mono (U' := U) (fun c hc => hc.elim id (fun e => e ▸ hU))
  · intro b hb
    simp only [Gh.give] at hb ⊢
    split
    · exact .inr rfl
    · rename_i h; rw [if_neg h] at hb; exact .inl (hI.colU b hb)
  · intro b
    simp only [Gh.give]
    by_cases h : G.col b ∈ ts
    · have := (hts _ h).1
      simp only [h, if_true]; omega
    · simp [h]

theorem elem_ok (hC : CxTy P C) (hI : Inv w0 c0 U E a w G) (hR : RI ops E a.tmps) (hg : Gd ops a.tmps g) {tk : Nat} {o : Oper} {t : TypeId} {x y : Operand}
    {gv : List Nat} {b : Nat} {e : Ty} {l' : List e.den} {m : M} (ho : o.op = .store t x y) (h : evOp0 C ops E.rd tk g o = some (.elem gv b e l' m)) :
    ∃ w' G', (execOp a.eval o).run P w = .ok .skip w' ∧ Inv w0 c0 U (E.elem gv b e l' m) a w' G' := by
  simp only [evOp0, ho] at h
  split at h
  · split at h
    · split at h
      · obtain ⟨r, _, h⟩ := Option.map_eq_some_iff.mp h
        cases h
      · cases h
    · cases h
  · rename_i ti b1 e1 i off p τ1 v1 hti harg hv
    split at h
    · rename_i l hs nd hrow
      obtain ⟨hc, h⟩ := Option.ite_none_right_eq_some.mp h
      obtain ⟨hno, h⟩ := Option.ite_none_left_eq_some.mp h
      obtain ⟨r, hr, h⟩ := Option.map_eq_some_iff.mp h
      simp only [Ef.elem.injEq] at h
      obtain ⟨hgv, rfl, rfl, hl', hm⟩ := h
      have hl' := eq_of_heq hl'
      subst hl'
      simp only [Bool.and_eq_true, decide_eq_true_eq] at hc
      obtain ⟨⟨⟨hc1, hc2⟩, hc3⟩, hc4⟩ := hc
      obtain ⟨h1, _⟩ := arg_ok hI hR hg harg
      obtain ⟨bk, of, n, cap, hb3, k2, k3, k4, k5⟩ := h1
      obtain ⟨⟨vh, hvh⟩, hgood⟩ := hI.findRow hrow
      obtain ⟨⟨cv, hcv, hvv⟩, hvg, hlive⟩ := argD_ok hI hR hg hv
      have hvh0 : vh = G.hdr b1 := hvh.2.1.symm
      have hno' := hno
      simp only [Bool.not_eq_true] at hno'
      obtain ⟨q1, q2, q3, B, Bv, hs', nd', hB, hBv, hm', hblk⟩ := elemM_ok (τ := τ1) (gv := gv) (m := m) hvh hgood hvv hvg hlive hc3 _ rfl hgv.symm hm.symm hno'
      rw [hvh0, k2] at hB
      rcases hB with ⟨⟨ao, hB⟩, _⟩ | ⟨bk', of', cap', c, el, fz, Bs, hvv', hcap, hheap, hsz, rfl, hl⟩
      · cases hB; exfalso; have k4' : i < ((0 : Nat) : Int) := k4; have k3' : @LE.le Int Int.instLEInt 0 i := k3; omega
      · simp only [Value.slice.injEq, Option.some.injEq, Addr.mk.injEq, and_true] at hvv'
        obtain ⟨⟨rfl, rfl⟩, rfl, rfl⟩ := hvv'
        obtain ⟨j1, j2, j3, j4⟩ := hblk bk Bs rfl
        obtain ⟨c', el', hfr⟩ := hI.fresh bk (by rw [j1]; exact hb3)
        rw [hfr] at hheap
        simp only [Option.some.injEq, Obj.cells.injEq] at hheap
        obtain ⟨rfl, rfl, rfl⟩ := hheap
        have hi : i.toNat < l.length := toNat_lt k3 k4
        have hget : l[i.toNat]? = some (l.getD i.toNat e1.dflt) := by
          rw [List.getD_eq_getElem?_getD, List.getElem?_eq_getElem hi]; rfl
        obtain ⟨B1, Bx, B2, rfl, hx1, hx2, hx3⟩ := RepL.get (sz := e1.sz) (fun x c B h => Rep.len h) hl hget
        obtain ⟨Ba, Bo, Bb, rfl, hput, hle⟩ := Rep.put hr hx1 hBv
        have hset := RepL.set (sz := e1.sz) hi hput hx2 hx3
        have hlv : cv.length = v1.τ.sz := VOk.len hvv
        have hmul : (i.toNat + 1) * e1.sz ≤ l.length * e1.sz := Nat.mul_le_mul_right _ hi
        have hmul2 : l.length * e1.sz ≤ cap * e1.sz := Nat.mul_le_mul_right _ hcap
        rw [Nat.add_mul, Nat.one_mul] at hmul
        have hO : of + i.toNat * e1.sz + off + cv.length ≤ c'.size := by rw [← hc1]; omega
        have hrow' := setCells_row bk (el := el') cv (of + i.toNat * e1.sz + off) w c' hfr hO
        have hT := (hC.tt t ti hti).1
        have hrun := run_storeAt (P := P) (t := t) (τ := ti.τ) hT hfr (o := of + i.toNat * e1.sz + off) (cs := cv) (by rw [← hc4, ← hlv]; exact hO) (by rw [hlv, hc4]) (VOk.one hvv) k5
        have hU : U b1 := (hgood b1 (by simp)).2.1
        have hbx : G.bx b1 = false := (hgood b1 (by simp)).2.2
        have hI1 := hI.giveM (ts := gv) (t := b1) (v := G.hdr b1) hb3 q1 hU rfl hbx
        have hI2 := hI1.map (killSha_ok (w := w) b1) hI1.colU (fun b => ⟨fun h => h, fun _ => rfl, fun _ => rfl⟩)
        have hcol : (G.give gv b1 (G.hdr b1)).col bk = b1 := by simp [Gh.give, j1, q2]
        have hother : ∀ k, (G.give gv b1 (G.hdr b1)).col k ≠ b1 → (w.setCells bk (of + i.toNat * e1.sz + off) cv).heap[k]? = w.heap[k]? := fun k hk =>
          setCells_other bk _ _ w k (fun e => hk (e ▸ hcol))
        have hBs' := j4 (B1 ++ (Ba ++ Bv ++ Bb) ++ B2) ⟨B1 ++ Ba, Bo, Bb ++ B2, by simp [List.append_assoc], by simp [List.append_assoc]⟩
        have hnot : bk ∉ B1 ++ (Ba ++ Bv ++ Bb) ++ B2 := by
          simp only [List.mem_append, not_or] at j2 ⊢
          exact ⟨⟨j2.1.1, ⟨j2.1.2.1.1, j3⟩, j2.1.2.2⟩, j2.2⟩
        have hnew : RowOk (w.setCells bk (of + i.toNat * e1.sz + off) cv) (G.give gv b1 (G.hdr b1)) e1 (l.set i.toNat r.1) ((G.give gv b1 (G.hdr b1)).hdr b1) m := by
          rw [hm']
          refine ⟨hb3, rfl, bk :: (B1 ++ (Ba ++ Bv ++ Bb) ++ B2), ?_, ?_⟩
          · refine .inr ⟨bk, of, cap, _, el', (0, 0), B1 ++ (Ba ++ Bv ++ Bb) ++ B2, by simp [Gh.give, k2], by simpa using hcap, hrow', by simp; omega, rfl, ?_⟩
            have hcells : ((splice (of + i.toNat * e1.sz + off) cv c'.toList).drop of).take ((l.set i.toNat r.1).length * e1.sz) =
                ((c'.toList.drop of).take (l.length * e1.sz)).take (i.toNat * e1.sz) ++ splice (e1.off p) cv ((((c'.toList.drop of).take (l.length * e1.sz)).drop (i.toNat * e1.sz)).take e1.sz) ++ ((c'.toList.drop of).take (l.length * e1.sz)).drop ((i.toNat + 1) * e1.sz) := by
              rw [splice_drop (by omega) (by simp; omega), splice_take (by simp; omega) (by simp; omega)]
              rw [show of + i.toNat * e1.sz + off - of = i.toNat * e1.sz + e1.off p by omega]
              rw [splice_nest (sz := e1.sz) hle]
              rw [Nat.add_mul, Nat.one_mul]
              simp
            show RepL _ _ (((splice (of + i.toNat * e1.sz + off) cv c'.toList).toArray.toList.drop of).take _) _
            rw [List.toList_toArray, hcells]
            exact RepL.world (fun k hk => setCells_other bk _ _ w k (fun e => hnot (e ▸ hk))) hset
          · rintro h' Bs'' ⟨⟩
            exact ⟨hcol, hnot, hBs'.1, hBs'.2⟩
        have hI3 := hI2.setRow hnew (by simp [Gh.give]) hb3 hother (fun s => ?_) (fun c hc => ?_) (fun k hk => ?_) (by rw [setCells_size]) (setCells_env _ _ _ w).1 (setCells_env _ _ _ w).2.1 (setCells_env _ _ _ w).2.2
        · refine ⟨w.setCells bk (of + i.toNat * e1.sz + off) cv, G.give gv b1 (G.hdr b1), ?_, ?_⟩
          · simp only [execOp, ho, hcv, hc4]
            simp [hrun]
          · simpa only [Env.elem, List.map_map, Function.comp_def, SV.killSha, SV.give] using hI3
        · have := getD_map (L := E.s.map (SV.give gv b1)) (T := SV.killSha b1) rfl s
          show SV.clear b1 ((List.map (SV.killSha b1) (E.s.map (SV.give gv b1))).getD s .no)
          rw [this]
          exact SV.killSha_clear b1 _
        · obtain ⟨p1, p2, p3⟩ := q3 c hc
          refine ⟨p1, p2, ?_⟩
          simp only [Gh.give]; split
          · rfl
          · exact p3
        · by_cases e : k = bk
          · subst e; exact ⟨_, _, hrow'⟩
          · rw [setCells_other bk _ _ w k e]
            refine hI.fresh k ?_
            simp only [Gh.give] at hk
            split at hk
            · rename_i h; exact (q1 _ h).1
            · rw [hk]; exact hb3
    · cases h
  · cases h

end
end Vg

/- VG, part 21: what is handed over at calls. -/
namespace Vg
open Go

theorem ptShape_nt : ∀ (p : Pt) (tk : Nat) (hs : List Nat), (ptShape p tk hs).2 = (ptShape p tk []).2
  | .leaf, _, _ | .own, _, _ | .shr, _, _ | .hd, _, _ | .pv, _, _ => rfl
  | .pair a b, tk, hs => by simp only [ptShape]; rw [ptShape_nt a tk hs, ptShape_nt b _ hs]

theorem ptNext_eq (p : Pt) (tk : Nat) (hs : List Nat) : (ptShape p tk hs).2 = ptNext p tk := ptShape_nt p tk hs

theorem ptNext_ge : ∀ (p : Pt) (tk : Nat), tk ≤ ptNext p tk
  | .leaf, _ | .shr, _ => Nat.le_refl _
  | .own, _ | .hd, _ | .pv, _ => Nat.le_succ _
  | .pair a b, tk => by
    have h1 := ptNext_ge a tk
    have h2 := ptNext_ge b (ptNext a tk)
    exact Nat.le_trans h1 h2

theorem ptNext_pair (a b : Pt) (tk : Nat) : ptNext (.pair a b) tk = ptNext b (ptNext a tk) := rfl

theorem ptShape_shr : ∀ (τ : Ty) (tk : Nat) (hs : List Nat), ptShape (shrPt τ) tk hs = (shOf τ (.sha hs), tk)
  | .int _, _, _ | .bool, _, _ | .str, _, _ | .sl _, _, _ => rfl
  | .pair a b, tk, hs => by simp only [shrPt, ptShape, ptShape_shr a, ptShape_shr b, shOf]

theorem ptNext_shr (τ : Ty) (tk : Nat) : ptNext (shrPt τ) tk = tk := by rw [← ptNext_eq (shrPt τ) tk [1], ptShape_shr]

/-- Colours of a canonical shape. -/
theorem ptShape_cols : ∀ {p : Pt} {tk : Nat} {hs : List Nat}, ∀ c ∈ (ptShape p tk hs).1.cols, c ∈ hs ∨ (tk ≤ c ∧ c < ptNext p tk)
  | .leaf, tk, hs, c, h => by simp [ptShape, Sh.cols] at h
  | .own, tk, hs, c, h => by
    simp only [ptShape, Sh.cols, M.cols, List.mem_cons, List.not_mem_nil, or_false, or_self] at h
    subst h; exact .inr ⟨Nat.le_refl _, Nat.lt_succ_self _⟩
  | .pv, tk, hs, c, h => by
    simp only [ptShape, Sh.cols, M.cols, List.mem_cons, List.not_mem_nil, or_false, or_self] at h
    subst h; exact .inr ⟨Nat.le_refl _, Nat.lt_succ_self _⟩
  | .hd, tk, hs, c, h => by
    simp only [ptShape, Sh.cols, M.cols, List.mem_cons] at h
    rcases h with rfl | rfl | h
    · exact .inr ⟨Nat.le_refl _, Nat.lt_succ_self _⟩
    · exact .inr ⟨Nat.le_refl _, Nat.lt_succ_self _⟩
    · exact .inl h
  | .shr, tk, hs, c, h => .inl h
  | .pair a b, tk, hs, c, h => by
    simp only [ptShape, Sh.cols, List.mem_append] at h
    have h1 := ptNext_ge a tk
    have h2 := ptNext_ge b (ptNext a tk)
    rw [ptNext_pair]
    rcases h with h | h
    · rcases ptShape_cols c h with h | h
      · exact .inl h
      · right; omega
    · rw [ptNext_eq] at h
      rcases ptShape_cols c h with h | h
      · exact .inl h
      · right; omega

/-- Shared colours come of what is shared. -/
theorem ptShape_shared : ∀ {p : Pt} {tk : Nat} {hs : List Nat}, ∀ c ∈ (ptShape p tk hs).1.cols, (c ∈ hs ∧ p.hasShr = true) ∨ (tk ≤ c ∧ c < ptNext p tk)
  | .leaf, tk, hs, c, h => by simp [ptShape, Sh.cols] at h
  | .own, tk, hs, c, h => by
    simp only [ptShape, Sh.cols, M.cols, List.mem_cons, List.not_mem_nil, or_false, or_self] at h
    subst h; exact .inr ⟨Nat.le_refl _, Nat.lt_succ_self _⟩
  | .pv, tk, hs, c, h => by
    simp only [ptShape, Sh.cols, M.cols, List.mem_cons, List.not_mem_nil, or_false, or_self] at h
    subst h; exact .inr ⟨Nat.le_refl _, Nat.lt_succ_self _⟩
  | .hd, tk, hs, c, h => by
    simp only [ptShape, Sh.cols, M.cols, List.mem_cons] at h
    rcases h with rfl | rfl | h
    · exact .inr ⟨Nat.le_refl _, Nat.lt_succ_self _⟩
    · exact .inr ⟨Nat.le_refl _, Nat.lt_succ_self _⟩
    · exact .inl ⟨h, rfl⟩
  | .shr, tk, hs, c, h => .inl ⟨h, rfl⟩
  | .pair a b, tk, hs, c, h => by
    simp only [ptShape, Sh.cols, List.mem_append] at h
    have h1 := ptNext_ge a tk
    have h2 := ptNext_ge b (ptNext a tk)
    rw [ptNext_pair]
    simp only [Pt.hasShr, Bool.or_eq_true]
    rcases h with h | h
    · rcases ptShape_shared c h with h | h
      · exact .inl ⟨h.1, .inl h.2⟩
      · right; omega
    · rw [ptNext_eq] at h
      rcases ptShape_shared c h with h | h
      · exact .inl ⟨h.1, .inr h.2⟩
      · right; omega

section
variable {P : Program} {C : Cx} {w0 : World} {c0 : C0} {U : Nat → Prop} {E : Env} {a : Act} {w : World} {G : Gh} {ops : List Oper} {g : Option (Nat × Bool)}

/-- A value in canonical tokens. -/
theorem pt_canon {sm : Nat → Nat} {hs : List Nat} : ∀ {p : Pt} {τ : Ty} {x : τ.den} {sh : Sh} {cs : List Value} {tk : Nat}, fitsPt p sh = true → VOk w G τ x sh cs → 3 ≤ tk → (∀ c ∈ sh.cols, sm c ∈ hs) → hs ≠ [] →
    ∃ H : Nat → Value, ∀ G1 : Gh, (∀ c k, (c, k) ∈ ptRho sm p sh tk → ∀ b, G.col b = c → G1.col b = k) → (∀ u, tk ≤ u → u < ptNext p tk → G1.hdr u = H u) → VOk w G1 τ x (ptShape p tk hs).1 cs
  | .leaf, .int _, x, .leaf, cs, tk, _, h, _, _, _ => ⟨fun _ => undef, fun _ _ _ => h⟩
  | .leaf, .bool, x, .leaf, cs, tk, _, h, _, _, _ => ⟨fun _ => undef, fun _ _ _ => h⟩
  | .leaf, .str, x, .leaf, cs, tk, _, h, _, _, _ => ⟨fun _ => undef, fun _ _ _ => h⟩
  | .own, .sl e, l, .sl m, cs, tk, hf, h, h3, _, _ => by
    obtain ⟨v, rfl, hr⟩ := h
    simp only [fitsPt, Option.isSome_iff_exists] at hf
    obtain ⟨ts, ho⟩ := hf
    obtain ⟨B, hB, hn, hc⟩ := hr.own ho
    refine ⟨fun _ => v, fun G1 h1 h2 => ⟨v, rfl, h3, h2 tk (Nat.le_refl _) (Nat.lt_succ_self _), B, hB, ?_⟩⟩
    have hk : ∀ b ∈ B, G1.col b = tk := fun b hb => h1 (G.col b) tk (by simp only [ptRho, ho, Option.getD_some, List.mem_map]; exact ⟨_, hc b hb, rfl⟩) b rfl
    rintro b Bs rfl
    rw [List.nodup_cons] at hn
    exact ⟨hk b (by simp), hn.1, fun x hx => by simp [hk x (by simp [hx])], fun _ => hn.2⟩
  | .shr, .sl e, l, .sl m, cs, tk, hf, h, h3, hsm, hne => by
    obtain ⟨v, rfl, hr⟩ := h
    simp only [fitsPt, ne_eq, decide_not, Bool.not_eq_true', decide_eq_false_iff_not] at hf
    obtain ⟨B, hB, hc⟩ := hr.rep hf
    refine ⟨fun _ => v, fun G1 h1 h2 => ⟨v, rfl, ⟨B, hB, fun b hb => ?_⟩, fun e => absurd e hne⟩⟩
    rw [h1 (G.col b) (sm (G.col b)) (by simp only [ptRho, List.mem_map]; exact ⟨_, hc b hb, rfl⟩) b rfl]
    exact hsm _ (hc b hb)
  | .pv, .sl e, l, .sl m, cs, tk, hf, h, h3, _, _ => by
    obtain ⟨v, rfl, hr⟩ := h
    simp only [fitsPt, Option.isSome_iff_exists] at hf
    obtain ⟨ts, ho⟩ := hf
    rcases M.priv_spec ho with ⟨t, hs', nd, rfl, hge, hts⟩ | ⟨rfl, rfl⟩
    · obtain ⟨_, _, B, hB, hc⟩ := hr
      refine ⟨fun _ => v, fun G1 h1 h2 => ⟨v, rfl, h3, h2 tk (Nat.le_refl _) (Nat.lt_succ_self _), B, hB, ?_⟩⟩
      rintro b Bs rfl
      obtain ⟨q1, q2, q3, _⟩ := hc b Bs rfl
      have hk : ∀ c, c = t ∨ c ∈ hs' → ∀ b, G.col b = c → G1.col b = tk := fun c hc => h1 c tk (by simp only [ptRho, ho, Option.getD_some, List.mem_map]; exact ⟨c, (hts c).2 hc, rfl⟩)
      exact ⟨hk t (.inl rfl) b q1, q2, fun x hx => by simp [hk _ (.inr (q3 x hx)) x rfl], by simp⟩
    · obtain ⟨_, B, hB, rfl⟩ := hr.nil
      exact ⟨fun _ => v, fun G1 h1 h2 => ⟨v, rfl, h3, h2 tk (Nat.le_refl _) (Nat.lt_succ_self _), [], hB, by rintro b Bs ⟨⟩⟩⟩
  | .hd, .sl e, l, .sl (.row t hs' nd), cs, tk, hf, h, h3, hsm, hne => by
    obtain ⟨v, rfl, _, _, B, hB, hc⟩ := h
    refine ⟨fun _ => v, fun G1 h1 h2 => ⟨v, rfl, h3, h2 tk (Nat.le_refl _) (Nat.lt_succ_self _), B, hB, ?_⟩⟩
    rintro b Bs rfl
    obtain ⟨q1, q2, q3, _⟩ := hc b Bs rfl
    refine ⟨h1 t tk (by simp [ptRho]) b q1, q2, fun x hx => ?_, by simp⟩
    by_cases e : G.col x = t
    · rw [h1 t tk (by simp [ptRho]) x e]; simp
    · rw [h1 (G.col x) (sm (G.col x)) (by simp only [ptRho, List.mem_cons, List.mem_map, List.mem_filter]; exact .inr ⟨_, ⟨q3 x hx, by simpa using e⟩, rfl⟩) x rfl]
      exact List.mem_cons_of_mem _ (hsm _ (by simp [Sh.cols, M.cols, q3 x hx]))
  | .hd, .sl e, l, .sl (.sha []), cs, tk, hf, h, h3, hsm, hne => by
    obtain ⟨v, rfl, hr⟩ := h
    obtain ⟨_, B, hB, rfl⟩ := RowOk.nil hr
    exact ⟨fun _ => v, fun G1 h1 h2 => ⟨v, rfl, h3, h2 tk (Nat.le_refl _) (Nat.lt_succ_self _), [], hB, by rintro b Bs ⟨⟩⟩⟩
  | .pair p q, .pair a b, x, .pair s1 s2, cs, tk, hf, h, h3, hsm, hne => by
    obtain ⟨c1, c2, rfl, h1, h2⟩ := h
    simp only [fitsPt, Bool.and_eq_true] at hf
    have hge := ptNext_ge p tk
    obtain ⟨H1, k1⟩ := pt_canon hf.1 h1 h3 (fun c hc => hsm c (by simp [Sh.cols, hc])) hne
    obtain ⟨H2, k2⟩ := pt_canon (tk := ptNext p tk) hf.2 h2 (by omega) (fun c hc => hsm c (by simp [Sh.cols, hc])) hne
    refine ⟨fun u => if u < ptNext p tk then H1 u else H2 u, fun G1 g1 g2 => ⟨c1, c2, rfl, ?_, ?_⟩⟩
    · refine k1 G1 (fun c k hck => g1 c k (by simp only [ptRho, List.mem_append]; exact .inl hck)) (fun u hu hu2 => ?_)
      exact (g2 u hu (by rw [ptNext_pair]; exact Nat.lt_of_lt_of_le hu2 (ptNext_ge _ _))).trans (if_pos hu2)
    · rw [ptNext_eq]
      refine k2 G1 (fun c k hck => g1 c k (by simp only [ptRho, List.mem_append]; exact .inr hck)) (fun u hu hu2 => ?_)
      exact (g2 u (by omega) (by rw [ptNext_pair]; exact hu2)).trans (if_neg (by omega))
  | .hd, _, _, .sl (.sha (_ :: _)), _, _, hf, _, _, _, _ | .hd, _, _, .sl .dead, _, _, hf, _, _, _, _ | .hd, _, _, .leaf, _, _, hf, _, _, _, _ | .hd, _, _, .pair _ _, _, _, hf, _, _, _, _
  | .pv, _, _, .leaf, _, _, hf, _, _, _, _ | .pv, _, _, .pair _ _, _, _, hf, _, _, _, _
  | .leaf, _, _, .sl _, _, _, hf, _, _, _, _ | .leaf, _, _, .pair _ _, _, _, hf, _, _, _, _ | .own, _, _, .leaf, _, _, hf, _, _, _, _ | .own, _, _, .pair _ _, _, _, hf, _, _, _, _
  | .shr, _, _, .leaf, _, _, hf, _, _, _, _ | .shr, _, _, .pair _ _, _, _, hf, _, _, _, _ | .pair _ _, _, _, .leaf, _, _, hf, _, _, _, _ | .pair _ _, _, _, .sl _, _, _, hf, _, _, _, _ => by simp [fitsPt] at hf
  | .hd, .int _, _, .sl (.row _ _ _), _, _, _, h, _, _, _ | .hd, .bool, _, .sl (.row _ _ _), _, _, _, h, _, _, _ | .hd, .str, _, .sl (.row _ _ _), _, _, _, h, _, _, _ | .hd, .pair _ _, _, .sl (.row _ _ _), _, _, _, h, _, _, _
  | .hd, .int _, _, .sl (.sha []), _, _, _, h, _, _, _ | .hd, .bool, _, .sl (.sha []), _, _, _, h, _, _, _ | .hd, .str, _, .sl (.sha []), _, _, _, h, _, _, _ | .hd, .pair _ _, _, .sl (.sha []), _, _, _, h, _, _, _
  | .pv, .int _, _, .sl _, _, _, _, h, _, _, _ | .pv, .bool, _, .sl _, _, _, _, h, _, _, _ | .pv, .str, _, .sl _, _, _, _, h, _, _, _ | .pv, .pair _ _, _, .sl _, _, _, _, h, _, _, _
  | .leaf, .sl _, _, .leaf, _, _, _, h, _, _, _ | .leaf, .pair _ _, _, .leaf, _, _, _, h, _, _, _ | .own, .int _, _, .sl _, _, _, _, h, _, _, _ | .own, .bool, _, .sl _, _, _, _, h, _, _, _ | .own, .str, _, .sl _, _, _, _, h, _, _, _ | .own, .pair _ _, _, .sl _, _, _, _, h, _, _, _
  | .shr, .int _, _, .sl _, _, _, _, h, _, _, _ | .shr, .bool, _, .sl _, _, _, _, h, _, _, _ | .shr, .str, _, .sl _, _, _, _, h, _, _, _ | .shr, .pair _ _, _, .sl _, _, _, _, h, _, _, _
  | .pair _ _, .int _, _, .pair _ _, _, _, _, h, _, _, _ | .pair _ _, .bool, _, .pair _ _, _, _, _, h, _, _, _ | .pair _ _, .str, _, .pair _ _, _, _, _, h, _, _, _ | .pair _ _, .sl _, _, .pair _ _, _, _, _, h, _, _, _ => h.elim

/-- From canonical tokens on to others. -/
theorem pt_recol {G1 G2 : Gh} {hs hs' : List Nat} : ∀ {p : Pt} {τ : Ty} {x : τ.den} {cs : List Value} {k k' : Nat}, VOk w G1 τ x (ptShape p k hs).1 cs → 3 ≤ k' →
    (∀ u, k ≤ u → u < ptNext p k → G2.hdr (k' + (u - k)) = G1.hdr u ∧ ∀ b, G1.col b = u → G2.col b = k' + (u - k)) → (∀ b, G1.col b ∈ hs → G2.col b ∈ hs') → hs' ≠ [] →
    VOk w G2 τ x (ptShape p k' hs').1 cs ∧ ptNext p k' - k' = ptNext p k - k
  | .leaf, .int _, x, cs, k, k', h, _, _, _, _ => ⟨h, by simp [ptNext, ptShape]⟩
  | .leaf, .bool, x, cs, k, k', h, _, _, _, _ => ⟨h, by simp [ptNext, ptShape]⟩
  | .leaf, .str, x, cs, k, k', h, _, _, _, _ => ⟨h, by simp [ptNext, ptShape]⟩
  | .own, .sl e, l, cs, k, k', h, h3, hk, _, _ => by
    obtain ⟨v, rfl, g1, g2, B, hB, hc⟩ := h
    obtain ⟨e1, e2⟩ := hk k (Nat.le_refl _) (Nat.lt_succ_self _)
    simp only [Nat.sub_self, Nat.add_zero] at e1 e2
    refine ⟨⟨v, rfl, h3, e1.trans g2, B, hB, fun b Bs hb => ?_⟩, by simp [ptNext, ptShape]⟩
    obtain ⟨q1, q2, q3, q4⟩ := hc b Bs hb
    exact ⟨e2 b q1, q2, fun x hx => by simp [e2 x (by simpa using q3 x hx)], q4⟩
  | .pv, .sl e, l, cs, k, k', h, h3, hk, _, _ => by
    obtain ⟨v, rfl, g1, g2, B, hB, hc⟩ := h
    obtain ⟨e1, e2⟩ := hk k (Nat.le_refl _) (Nat.lt_succ_self _)
    simp only [Nat.sub_self, Nat.add_zero] at e1 e2
    refine ⟨⟨v, rfl, h3, e1.trans g2, B, hB, fun b Bs hb => ?_⟩, by simp [ptNext, ptShape]⟩
    obtain ⟨q1, q2, q3, q4⟩ := hc b Bs hb
    exact ⟨e2 b q1, q2, fun x hx => by simp [e2 x (by simpa using q3 x hx)], q4⟩
  | .hd, .sl e, l, cs, k, k', h, h3, hk, hh, hne => by
    obtain ⟨v, rfl, g1, g2, B, hB, hc⟩ := h
    obtain ⟨e1, e2⟩ := hk k (Nat.le_refl _) (Nat.lt_succ_self _)
    simp only [Nat.sub_self, Nat.add_zero] at e1 e2
    refine ⟨⟨v, rfl, h3, e1.trans g2, B, hB, fun b Bs hb => ?_⟩, by simp [ptNext, ptShape]⟩
    obtain ⟨q1, q2, q3, q4⟩ := hc b Bs hb
    refine ⟨e2 b q1, q2, fun x hx => ?_, q4⟩
    rcases List.mem_cons.1 (q3 x hx) with h | h
    · rw [e2 x h]; simp
    · exact List.mem_cons_of_mem _ (hh x h)
  | .shr, .sl e, l, cs, k, k', h, _, _, hh, hne => by
    obtain ⟨v, rfl, ⟨B, hB, hc⟩, _⟩ := h
    exact ⟨⟨v, rfl, ⟨B, hB, fun b hb => hh b (hc b hb)⟩, fun e => absurd e hne⟩, by simp [ptNext, ptShape]⟩
  | .pair p q, .pair a b, x, cs, k, k', h, h3, hk, hh, hne => by
    obtain ⟨c1, c2, rfl, h1, h2⟩ := h
    have n1 := ptNext_ge p k
    have n2 := ptNext_ge q (ptNext p k)
    have n3 := ptNext_ge p k'
    rw [ptNext_eq] at h2
    obtain ⟨r1, d1⟩ := pt_recol h1 h3 (fun u hu hu2 => hk u hu (by rw [ptNext_pair]; omega)) hh hne
    obtain ⟨r2, d2⟩ := pt_recol (k' := ptNext p k') h2 (by omega) (fun u hu hu2 => by
      have := hk u (by omega) (by rw [ptNext_pair]; omega)
      rw [show ptNext p k' + (u - ptNext p k) = k' + (u - k) by omega]
      exact this) hh hne
    refine ⟨⟨c1, c2, rfl, r1, ?_⟩, ?_⟩
    · rw [ptNext_eq]; exact r2
    · rw [ptNext_pair, ptNext_pair]
      have := ptNext_ge q (ptNext p k')
      omega
  | .hd, .int _, _, _, _, _, h, _, _, _, _ | .hd, .bool, _, _, _, _, h, _, _, _, _ | .hd, .str, _, _, _, _, h, _, _, _, _ | .hd, .pair _ _, _, _, _, _, h, _, _, _, _
  | .pv, .int _, _, _, _, _, h, _, _, _, _ | .pv, .bool, _, _, _, _, h, _, _, _, _ | .pv, .str, _, _, _, _, h, _, _, _, _ | .pv, .pair _ _, _, _, _, _, h, _, _, _, _
  | .leaf, .sl _, _, _, _, _, h, _, _, _, _ | .leaf, .pair _ _, _, _, _, _, h, _, _, _, _ | .own, .int _, _, _, _, _, h, _, _, _, _ | .own, .bool, _, _, _, _, h, _, _, _, _ | .own, .str, _, _, _, _, h, _, _, _, _ | .own, .pair _ _, _, _, _, _, h, _, _, _, _
  | .shr, .int _, _, _, _, _, h, _, _, _, _ | .shr, .bool, _, _, _, _, h, _, _, _, _ | .shr, .str, _, _, _, _, h, _, _, _, _ | .shr, .pair _ _, _, _, _, _, h, _, _, _, _
  | .pair _ _, .int _, _, _, _, _, h, _, _, _, _ | .pair _ _, .bool, _, _, _, _, h, _, _, _, _ | .pair _ _, .str, _, _, _, _, h, _, _, _, _ | .pair _ _, .sl _, _, _, _, _, h, _, _, _, _ => h.elim

end

theorem entNt_ge : ∀ (ps : List PK) (tk : Nat), tk ≤ entNt ps tk
  | [], _ => Nat.le_refl _
  | .val _ p :: ps, tk => Nat.le_trans (ptNext_ge p tk) (entNt_ge ps _)
  | .io _ p :: ps, tk => Nat.le_trans (Nat.le_trans (Nat.le_succ _) (ptNext_ge p (tk + 1))) (entNt_ge ps _)
  | .rd _ :: ps, tk | .vx _ _ :: ps, tk => entNt_ge ps tk

theorem env0_nt : ∀ (ps : List PK) (x : TupD (ps.map PK.ty)) (tk : Nat), (env0 ps x tk).2 = entNt ps tk
  | [], _, _ => rfl
  | .val _ p :: ps, x, tk => by simp only [env0, entNt]; rw [ptNext_eq]; exact env0_nt ps x.2 _
  | .io _ p :: ps, x, tk => by simp only [env0, entNt]; rw [ptNext_eq]; exact env0_nt ps x.2 _
  | .rd _ :: ps, x, tk | .vx _ _ :: ps, x, tk => by simp only [env0, entNt]; exact env0_nt ps x.2 _

theorem env0_len : ∀ (ps : List PK) (x : TupD (ps.map PK.ty)) (tk : Nat), (env0 ps x tk).1.length = ps.length
  | [], _, _ => rfl
  | .val _ p :: ps, x, tk => by simp only [env0, List.length_cons]; rw [env0_len ps x.2]
  | .io _ p :: ps, x, tk => by simp only [env0, List.length_cons]; rw [env0_len ps x.2]
  | .rd _ :: ps, x, tk | .vx _ _ :: ps, x, tk => by simp only [env0, List.length_cons]; rw [env0_len ps x.2]

theorem boxToks_in : ∀ {ps : List PK} {tk : Nat}, ∀ c ∈ boxToks ps tk, tk ≤ c ∧ c < entNt ps tk
  | [], _, c, h => by simp [boxToks] at h
  | .val _ p :: ps, tk, c, h => by
    have := boxToks_in (ps := ps) (tk := ptNext p tk) c h
    have h1 := ptNext_ge p tk
    exact ⟨by omega, this.2⟩
  | .io _ p :: ps, tk, c, h => by
    have h1 := ptNext_ge p (tk + 1)
    have h2 := entNt_ge ps (ptNext p (tk + 1))
    simp only [boxToks, List.mem_cons] at h
    simp only [entNt]
    rcases h with rfl | h
    · omega
    · have := boxToks_in (ps := ps) (tk := ptNext p (tk + 1)) c h; omega
  | .rd _ :: ps, tk, c, h | .vx _ _ :: ps, tk, c, h => boxToks_in (ps := ps) (tk := tk) c h

theorem env0_static : ∀ {ps : List PK} {x : TupD (ps.map PK.ty)} {tk : Nat}, ∀ sv ∈ (env0 ps x tk).1,
    (∀ c ∈ sv.sc, c = 1 ∨ (tk ≤ c ∧ c < entNt ps tk ∧ c ∉ boxToks ps tk) ∨ c ∈ vxs ps) ∧ (∀ c ∈ sv.bt, c ∈ boxToks ps tk) ∧ sv.rt = []
  | .val τ p :: ps, x, tk, sv, h => by
    have n1 := ptNext_ge p tk
    have n2 := entNt_ge ps (ptNext p tk)
    simp only [env0, List.mem_cons] at h
    rcases h with rfl | h
    · refine ⟨fun c hc => ?_, by simp [SV.bt], rfl⟩
      rcases ptShape_cols c hc with h | h
      · left; simpa using h
      · right; left
        simp only [entNt, boxToks]
        exact ⟨h.1, by omega, fun hin => by have := boxToks_in (ps := ps) (tk := ptNext p tk) c hin; omega⟩
    · rw [ptNext_eq] at h
      obtain ⟨h1, h2, h3⟩ := env0_static sv h
      refine ⟨fun c hc => ?_, h2, h3⟩
      rcases h1 c hc with h | ⟨k1, k2, k3⟩ | h
      · exact .inl h
      · exact .inr (.inl ⟨by omega, k2, k3⟩)
      · exact .inr (.inr h)
  | .io τ p :: ps, x, tk, sv, h => by
    have n1 := ptNext_ge p (tk + 1)
    have n2 := entNt_ge ps (ptNext p (tk + 1))
    simp only [env0, List.mem_cons] at h
    rcases h with rfl | h
    · refine ⟨fun c hc => ?_, by simp [SV.bt, boxToks], rfl⟩
      rcases ptShape_cols c hc with h | h
      · left; simpa using h
      · right; left
        simp only [entNt, boxToks, List.mem_cons, not_or]
        exact ⟨by omega, by omega, by omega, fun hin => by have := boxToks_in (ps := ps) (tk := ptNext p (tk + 1)) c hin; omega⟩
    · rw [ptNext_eq] at h
      obtain ⟨h1, h2, h3⟩ := env0_static sv h
      refine ⟨fun c hc => ?_, fun c hc => by simp [boxToks, h2 c hc], h3⟩
      rcases h1 c hc with h | ⟨k1, k2, k3⟩ | h
      · exact .inl h
      · refine .inr (.inl ⟨by omega, k2, ?_⟩)
        simp only [boxToks, List.mem_cons, not_or]
        exact ⟨by omega, k3⟩
      · exact .inr (.inr h)
  | .rd τ :: ps, x, tk, sv, h => by
    simp only [env0, List.mem_cons] at h
    rcases h with rfl | h
    · refine ⟨fun c hc => ?_, by simp [SV.bt], rfl⟩
      simp only [SV.sc, List.mem_append] at hc
      rcases hc with hc | hc
      · left; simpa using hc
      · rw [ptShape_shr] at hc
        left; simpa [M.cols] using shOf_cols _ _ c hc
    · obtain ⟨h1, h2, h3⟩ := env0_static sv h
      exact ⟨h1, h2, h3⟩
  | .vx e l :: ps, x, tk, sv, h => by
    simp only [env0, List.mem_cons] at h
    rcases h with rfl | h
    · refine ⟨fun c hc => ?_, by simp [SV.bt], rfl⟩
      simp only [SV.sc, Sh.cols, M.cols, List.mem_cons] at hc
      rcases hc with hc | hc
      · exact .inl hc
      · exact .inr (.inr (by simp [vxs, hc]))
    · obtain ⟨h1, h2, h3⟩ := env0_static sv h
      exact ⟨fun c hc => (h1 c hc).imp id (Or.imp id fun h => by simp [vxs, h]), h2, h3⟩

theorem env0_uni : ∀ {ps : List PK} {x : TupD (ps.map PK.ty)} {tk : Nat} {i j t : Nat} {v v' : TV},
    (env0 ps x tk).1.getD i .no = .box t v → (env0 ps x tk).1.getD j .no = .box t v' → i = j
  | [], _, _, _, _, _, _, _, h, _ => by simp [env0] at h
  | .val τ p :: ps, x, tk, i, j, t, v, v', h, h' => by
    simp only [env0] at h h'
    cases i with
    | zero => simp at h
    | succ i =>
      cases j with
      | zero => simp at h'
      | succ j =>
        simp only [List.getD_cons_succ] at h h'
        rw [env0_uni h h']
  | .io τ p :: ps, x, tk, i, j, t, v, v', h, h' => by
    have n1 := ptNext_ge p (tk + 1)
    have key : ∀ {n : Nat} {u : TV}, (env0 ps x.2 (ptNext p (tk + 1))).1.getD n .no ≠ .box tk u := by
      intro n u e
      have hin : SV.box tk u ∈ (env0 ps x.2 (ptNext p (tk + 1))).1 := by
        rw [List.getD_eq_getElem?_getD] at e
        cases hq : (env0 ps x.2 (ptNext p (tk + 1))).1[n]? with
        | none => rw [hq] at e; simp at e
        | some z => rw [hq] at e; simp at e; rw [← e]; exact List.mem_of_getElem? hq
      have := boxToks_in tk ((env0_static _ hin).2.1 tk (by simp [SV.bt]))
      omega
    simp only [env0] at h h'
    rw [ptNext_eq] at h h'
    cases i with
    | zero =>
      cases j with
      | zero => rfl
      | succ j =>
        simp only [List.getD_cons_zero, SV.box.injEq] at h
        simp only [List.getD_cons_succ] at h'
        rw [← h.1] at h'
        exact absurd h' key
    | succ i =>
      cases j with
      | zero =>
        simp only [List.getD_cons_zero, SV.box.injEq] at h'
        simp only [List.getD_cons_succ] at h
        rw [← h'.1] at h
        exact absurd h key
      | succ j =>
        simp only [List.getD_cons_succ] at h h'
        rw [env0_uni h h']
  | .rd τ :: ps, x, tk, i, j, t, v, v', h, h' => by
    simp only [env0] at h h'
    cases i with
    | zero => simp at h
    | succ i =>
      cases j with
      | zero => simp at h'
      | succ j =>
        simp only [List.getD_cons_succ] at h h'
        rw [env0_uni h h']
  | .vx e l :: ps, x, tk, i, j, t, v, v', h, h' => by
    simp only [env0] at h h'
    cases i with
    | zero => simp at h
    | succ i =>
      cases j with
      | zero => simp at h'
      | succ j =>
        simp only [List.getD_cons_succ] at h h'
        rw [env0_uni h h']

/-- What stands ready at a function's door. -/
structure Lot (w : World) (G : Gh) (L : List SV) (vs : List Value) (nt : Nat) : Prop where
  len : vs.length = L.length
  slots : ∀ i, SOk w G (L.getD i .no) (vs.getD i undef)
  ment : ∀ i, Ment (fun u => u < nt) G (L.getD i .no)
  uni : ∀ i j t v v', L.getD i .no = .box t v → L.getD j .no = .box t v' → i = j
  colU : ∀ b, 0 < G.col b → G.col b < nt ∧ b < w.heap.size
  fresh : ∀ b, 3 ≤ G.col b → ∃ c el, w.heap[b]? = some (.cells c el (0, 0))
  two : G.bx 2 = false
  ent : ∀ b, G.col b ≠ 2

end Vg

/- VG, part 22: a call's arguments in canonical tokens. -/
namespace Vg
open Go

section
variable {P : Program} {C : Cx} {w0 : World} {c0 : C0} {U : Nat → Prop} {E : Env} {a : Act} {w : World} {G : Gh} {ops : List Oper} {g : Option (Nat × Bool)}

theorem ptRho_in {sm : Nat → Nat} : ∀ {p : Pt} {τ : Ty} {x : τ.den} {sh : Sh} {cs : List Value} {tk : Nat}, VOk w G τ x sh cs → ∀ c k, (c, k) ∈ ptRho sm p sh tk →
    c ∈ sh.cols ∧ (k = sm c ∨ (3 ≤ c ∧ tk ≤ k ∧ k < ptNext p tk))
  | .leaf, _, _, _, _, _, _, c, k, hk => by simp [ptRho] at hk
  | .own, .sl e, l, .sl m, cs, tk, h, c, k, hk => by
    simp only [ptRho, List.mem_map, Prod.mk.injEq] at hk
    obtain ⟨c', hc, rfl, rfl⟩ := hk
    cases ho : m.own with
    | none => rw [ho] at hc; simp at hc
    | some ts =>
      rw [ho] at hc
      have h3 := Sh.own_ge (sh := .sl m) h ho _ hc
      exact ⟨M.own_sub ho _ hc, .inr ⟨h3, Nat.le_refl _, Nat.lt_succ_self _⟩⟩
  | .shr, .sl e, l, .sl m, cs, tk, h, c, k, hk => by
    simp only [ptRho, List.mem_map, Prod.mk.injEq] at hk
    obtain ⟨c', hc, rfl, rfl⟩ := hk
    exact ⟨hc, .inl rfl⟩
  | .pv, .sl e, l, .sl m, cs, tk, h, c, k, hk => by
    simp only [ptRho, List.mem_map, Prod.mk.injEq] at hk
    obtain ⟨c', hc, rfl, rfl⟩ := hk
    cases ho : m.priv with
    | none => rw [ho] at hc; simp at hc
    | some ts =>
      rw [ho] at hc
      simp only [Option.getD_some] at hc
      rcases M.priv_spec ho with ⟨t, hs', nd, rfl, hge, hts⟩ | ⟨rfl, rfl⟩
      · obtain ⟨_, _, h3, _⟩ := h
        rcases (hts _).1 hc with rfl | hc
        · exact ⟨by simp [Sh.cols, M.cols], .inr ⟨h3, Nat.le_refl _, Nat.lt_succ_self _⟩⟩
        · exact ⟨by simp [Sh.cols, M.cols, hc], .inr ⟨hge _ hc, Nat.le_refl _, Nat.lt_succ_self _⟩⟩
      · cases hc
  | .hd, .sl e, l, .sl (.row t hs' nd), cs, tk, h, c, k, hk => by
    obtain ⟨_, _, h3, _⟩ := h
    simp only [ptRho, List.mem_cons, Prod.mk.injEq, List.mem_map, List.mem_filter] at hk
    rcases hk with ⟨rfl, rfl⟩ | ⟨c', ⟨hc, _⟩, rfl, rfl⟩
    · exact ⟨by simp [Sh.cols, M.cols], .inr ⟨h3, Nat.le_refl _, Nat.lt_succ_self _⟩⟩
    · exact ⟨by simp [Sh.cols, M.cols, hc], .inl rfl⟩
  | .pair p q, .pair a b, x, .pair s1 s2, cs, tk, h, c, k, hk => by
    obtain ⟨c1, c2, rfl, h1, h2⟩ := h
    have n1 := ptNext_ge p tk
    have n2 := ptNext_ge q (ptNext p tk)
    simp only [ptRho, List.mem_append] at hk
    rw [ptNext_pair]
    rcases hk with hk | hk
    · obtain ⟨r1, r2⟩ := ptRho_in h1 c k hk
      exact ⟨by simp [Sh.cols, r1], r2.imp id (fun ⟨q1, q2, q3⟩ => ⟨q1, q2, by omega⟩)⟩
    · obtain ⟨r1, r2⟩ := ptRho_in h2 c k hk
      exact ⟨by simp [Sh.cols, r1], r2.imp id (fun ⟨q1, q2, q3⟩ => ⟨q1, by have : (ptShape p tk []).2 = ptNext p tk := rfl; omega, q3⟩)⟩
  | .pv, _, _, .leaf, _, _, _, c, k, hk | .pv, _, _, .pair _ _, _, _, _, c, k, hk | .hd, _, _, .leaf, _, _, _, c, k, hk | .hd, _, _, .pair _ _, _, _, _, c, k, hk | .hd, _, _, .sl (.sha _), _, _, _, c, k, hk | .hd, _, _, .sl .dead, _, _, _, c, k, hk
  | .own, _, _, .leaf, _, _, _, c, k, hk | .own, _, _, .pair _ _, _, _, _, c, k, hk | .shr, _, _, .leaf, _, _, _, c, k, hk | .shr, _, _, .pair _ _, _, _, _, c, k, hk
  | .pair _ _, _, _, .leaf, _, _, _, c, k, hk | .pair _ _, _, _, .sl _, _, _, _, c, k, hk => by simp [ptRho] at hk
  | .pv, .int _, _, .sl _, _, _, h, _, _, _ | .pv, .bool, _, .sl _, _, _, h, _, _, _ | .pv, .str, _, .sl _, _, _, h, _, _, _ | .pv, .pair _ _, _, .sl _, _, _, h, _, _, _
  | .hd, .int _, _, .sl (.row _ _ _), _, _, h, _, _, _ | .hd, .bool, _, .sl (.row _ _ _), _, _, h, _, _, _ | .hd, .str, _, .sl (.row _ _ _), _, _, h, _, _, _ | .hd, .pair _ _, _, .sl (.row _ _ _), _, _, h, _, _, _
  | .own, .int _, _, .sl _, _, _, h, _, _, _ | .own, .bool, _, .sl _, _, _, h, _, _, _ | .own, .str, _, .sl _, _, _, h, _, _, _ | .own, .pair _ _, _, .sl _, _, _, h, _, _, _
  | .shr, .int _, _, .sl _, _, _, h, _, _, _ | .shr, .bool, _, .sl _, _, _, h, _, _, _ | .shr, .str, _, .sl _, _, _, h, _, _, _ | .shr, .pair _ _, _, .sl _, _, _, h, _, _, _
  | .pair _ _, .int _, _, .pair _ _, _, _, h, _, _, _ | .pair _ _, .bool, _, .pair _ _, _, _, h, _, _, _ | .pair _ _, .str, _, .pair _ _, _, _, h, _, _, _ | .pair _ _, .sl _, _, .pair _ _, _, _, h, _, _, _ => h.elim

theorem boxOf_ok (hI : Inv w0 c0 U E a w G) {sv : SV} {mv : Value} {t s : Nat} {v : TV} (h : boxOf E.rd sv = some (t, s, v)) (hs : SOk w G sv mv) :
    E.s.getD s .no = .box t v ∧ ∃ bk c el, mv = .pointer (some ⟨bk, 0, none⟩) ∧ G.hdr t = mv ∧ 3 ≤ t ∧ G.col bk = t ∧ w.heap[bk]? = some (.cells c el (0, 0)) ∧ VOk w G v.τ v.x v.sh c.toList ∧
      (∀ c ∈ v.sh.cols, Good U G c) ∧ U t ∧ G.bx t = true := by
  unfold boxOf at h
  split at h
  · rename_i t' τ
    rw [Option.map_eq_some_iff] at h
    obtain ⟨r, hr, h⟩ := h
    simp only [Prod.mk.injEq] at h
    obtain ⟨rfl, rfl, rfl⟩ := h
    obtain ⟨h1, bk, c, el, g1, g2, g3, g4, g5, g6⟩ := hI.box hr
    obtain ⟨bk', _, k2, k3⟩ := hs
    rw [g1] at k2
    simp only [Value.pointer.injEq, Option.some.injEq, Addr.mk.injEq, and_true] at k2
    subst k2
    have hb := hI.bt r.1 t' (by rw [h1]; simp [SV.bt])
    exact ⟨h1, bk, c, el, k3, g1.trans k3.symm, g2, g3, g4, g5, g6, hb.2.1, hb.2.2⟩
  · cases h

theorem vxC_in (r0 : List (Nat × Nat)) (l : List Nat) (c : Nat) : vxC r0 l c ∈ 1 :: l := by
  unfold vxC
  split
  · split
    · rename_i h; simp only [List.contains_eq_mem, decide_eq_true_eq] at h; exact List.mem_cons_of_mem _ h
    · simp
  · simp

theorem lookup_mem0 : ∀ {l : List (Nat × Nat)} {a b : Nat}, l.lookup a = some b → (a, b) ∈ l
  | (x, y) :: l, a, b, h => by
    simp only [List.lookup] at h
    split at h
    · rename_i e
      simp only [beq_iff_eq] at e
      cases h; simp [e]
    · exact List.mem_cons_of_mem _ (lookup_mem0 h)

theorem vxC_or (r0 : List (Nat × Nat)) (l : List Nat) (c : Nat) : vxC r0 l c = 1 ∨ ((c, vxC r0 l c) ∈ r0 ∧ vxC r0 l c ∈ l) := by
  unfold vxC
  split
  · rename_i k hk
    split
    · rename_i h; simp only [List.contains_eq_mem, decide_eq_true_eq] at h; exact .inr ⟨lookup_mem0 hk, h⟩
    · exact .inl rfl
  · exact .inl rfl

/-- What is told of the colours that are handed over. -/
def RhoIn (U : Nat → Prop) (G : Gh) (ps : List PK) (tk : Nat) (bs : List (Nat × Nat)) (c k : Nat) : Prop :=
  (k = 1 ∧ 0 < c ∧ U c ∧ (G.bx c = false ∨ hasRd ps = true)) ∨ (tk ≤ k ∧ k < entNt ps tk ∧ 3 ≤ c ∧ ((Good U G c ∧ k ∉ boxToks ps tk) ∨ (k ∈ boxToks ps tk ∧ U c ∧ G.bx c = true ∧ ∃ s, (c, s) ∈ bs)))

theorem gather_ok (hI : Inv w0 c0 U E a w G) : ∀ {ps : List PK} {as : List SV} {vals : List Value} {tk : Nat} {r0 : List (Nat × Nat)} {xs : TupD (ps.map PK.ty)} {rho bs : List (Nat × Nat)},
    gather E.rd ps as tk r0 = some (xs, rho, bs) → (∀ i, SOk w G (as.getD i .no) (vals.getD i undef) ∧ Ment U G (as.getD i .no)) → 3 ≤ tk →
    as.length = ps.length ∧
    (∃ H : Nat → Value, ∀ G1 : Gh, (∀ c k, (c, k) ∈ rho → ∀ b, G.col b = c → G1.col b = k) → (∀ u, tk ≤ u → u < entNt ps tk → G1.hdr u = H u) →
      ∀ i, SOk w G1 ((env0 ps xs tk).1.getD i .no) (vals.getD i undef)) ∧
    (∀ c k, (c, k) ∈ rho → RhoIn U G ps tk bs c k ∨ ((c, k) ∈ r0 ∧ k ≠ 1))
  | [], [], vals, tk, r0, xs, rho, bs, h, hs, h3 => by
    simp only [gather, Option.some.injEq] at h
    obtain ⟨rfl, rfl, rfl⟩ := h
    exact ⟨rfl, ⟨fun _ => undef, fun G1 _ _ i => by simp [env0, SOk]⟩, by simp⟩
  | .val τ p :: ps, .d v :: as, vals, tk, r0, xs, rho, bs, h, hs, h3 => by
    simp only [gather] at h
    split at h
    · rename_i x xs' rho' bs' hx hg
      split at h
      · rename_i hf
        simp only [Option.some.injEq, Prod.mk.injEq] at h
        obtain ⟨rfl, rfl, rfl⟩ := h
        have n1 := ptNext_ge p tk
        have n2 := entNt_ge ps (ptNext p tk)
        have hs0 := hs 0
        simp only [List.getD_cons_zero] at hs0
        obtain ⟨⟨cs, hcs, hv⟩, hm⟩ := hs0
        have e := castV_ok hx
        rw [e] at hcs hv hf hm ⊢
        obtain ⟨hl, ⟨H2, k2⟩, hr⟩ := gather_ok hI (vals := vals.drop 1) hg (fun i => by have := hs (i + 1); simpa [List.getD_eq_getElem?_getD, Nat.add_comm] using this) (by exact Nat.le_trans h3 n1)
        obtain ⟨H1, k1⟩ := pt_canon (sm := fun _ => 1) (hs := [1]) (tk := tk) hf hv h3 (by simp) (by simp)
        refine ⟨by simp [hl], ⟨fun u => if u < ptNext p tk then H1 u else H2 u, fun G1 g1 g2 i => ?_⟩, fun c k hck => ?_⟩
        · cases i with
          | zero =>
            simp only [env0, List.getD_cons_zero]
            exact ⟨cs, hcs, k1 G1 (fun c k hck => g1 c k (List.mem_append_left _ hck)) (fun u hu hu2 => (g2 u hu (by simp only [entNt]; omega)).trans (if_pos hu2))⟩
          | succ i =>
            simp only [env0, List.getD_cons_succ]
            rw [ptNext_eq]
            have := k2 G1 (fun c k hck => g1 c k (List.mem_append_right _ hck)) (fun u hu hu2 => (g2 u (by have : (ptShape p tk []).2 = ptNext p tk := rfl; omega) hu2).trans (if_neg (by have : (ptShape p tk []).2 = ptNext p tk := rfl; omega))) i
            have hpn : (ptShape p tk []).2 = ptNext p tk := rfl
            rw [hpn] at this
            simpa [List.getD_eq_getElem?_getD, Nat.add_comm] using this
        · rcases List.mem_append.1 hck with hck | hck
          · obtain ⟨r1, r2⟩ := ptRho_in hv c k hck
            have hgd : Good U G c := hm.1 c r1
            left
            rcases r2 with r2 | ⟨r2, r3, r4⟩
            · exact .inl ⟨r2, hgd.1, hgd.2.1, .inl hgd.2.2⟩
            · refine .inr ⟨r3, by simp only [entNt]; omega, r2, .inl ⟨hgd, fun hin => ?_⟩⟩
              have := boxToks_in (ps := ps) (tk := ptNext p tk) k hin
              omega
          · rcases hr c k hck with (h | ⟨q1, q2, q3, q4⟩) | ⟨h, hk1⟩
            · exact .inl (.inl h)
            · exact .inl (.inr ⟨Nat.le_trans n1 q1, q2, q3, q4⟩)
            · rcases List.mem_append.1 h with h | h
              · exact .inr ⟨h, hk1⟩
              · obtain ⟨r1, r2⟩ := ptRho_in hv c k h
                have hgd : Good U G c := hm.1 c r1
                left
                rcases r2 with r2 | ⟨r2, r3, r4⟩
                · exact absurd r2 hk1
                · refine .inr ⟨r3, by simp only [entNt]; omega, r2, .inl ⟨hgd, fun hin => ?_⟩⟩
                  have := boxToks_in (ps := ps) (tk := ptNext p tk) k hin
                  omega
      · cases h
    · cases h
  | .io τ p :: ps, sv :: as, vals, tk, r0, xs, rho, bs, h, hs, h3 => by
    simp only [gather] at h
    split at h
    · rename_i t s v hb
      split at h
      · rename_i x xs' rho' bs' hx hg
        split at h
        · rename_i hf
          simp only [Option.some.injEq, Prod.mk.injEq] at h
          obtain ⟨rfl, rfl, rfl⟩ := h
          have n1 := ptNext_ge p (tk + 1)
          have n2 := entNt_ge ps (ptNext p (tk + 1))
          have hs0 := hs 0
          simp only [List.getD_cons_zero] at hs0
          obtain ⟨hslot, bk, c, el, b1, b2, b3, b4, b5, b6, b7, b8, b9⟩ := boxOf_ok hI hb hs0.1
          have e := castV_ok hx
          rw [e] at hf b6 b7 ⊢
          obtain ⟨hl, ⟨H2, k2⟩, hr⟩ := gather_ok hI (vals := vals.drop 1) hg (fun i => by have := hs (i + 1); simpa [List.getD_eq_getElem?_getD, Nat.add_comm] using this) (by have : (ptShape p (tk + 1) []).2 = ptNext p (tk + 1) := rfl; omega)
          obtain ⟨H1, k1⟩ := pt_canon (sm := fun _ => 1) (hs := [1]) (tk := tk + 1) hf b6 (by omega) (by simp) (by simp)
          refine ⟨by simp [hl], ⟨fun u => if u = tk then vals.getD 0 undef else if u < ptNext p (tk + 1) then H1 u else H2 u, fun G1 g1 g2 i => ?_⟩, fun c k hck => ?_⟩
          · cases i with
            | zero =>
              simp only [env0, List.getD_cons_zero]
              refine ⟨bk, c, el, b1, h3, ?_, g1 t tk (by simp) bk b4, b5, k1 G1 (fun c k hck => g1 c k (by simp [hck])) (fun u hu hu2 => ?_)⟩
              · exact (g2 tk (Nat.le_refl _) (by simp only [entNt]; omega)).trans (if_pos rfl)
              · exact ((g2 u (by omega) (by simp only [entNt]; omega)).trans (if_neg (by omega))).trans (if_pos hu2)
            | succ i =>
              simp only [env0, List.getD_cons_succ]
              rw [ptNext_eq]
              have hpn : (ptShape p (tk + 1) []).2 = ptNext p (tk + 1) := rfl
              have := k2 G1 (fun c k hck => g1 c k (by simp [hck])) (fun u hu hu2 => ((g2 u (by omega) hu2).trans (if_neg (by omega))).trans (if_neg (by omega))) i
              rw [hpn] at this
              simpa [List.getD_eq_getElem?_getD, Nat.add_comm] using this
          · have key : (c, k) = (t, tk) ∨ (c, k) ∈ ptRho (fun _ => 1) p v.sh (tk + 1) → RhoIn U G (.io τ p :: ps) tk ((t, s) :: bs') c k := by
              intro hck
              rcases hck with hck | hck
              · simp only [Prod.mk.injEq] at hck
                obtain ⟨rfl, rfl⟩ := hck
                exact .inr ⟨Nat.le_refl _, by simp only [entNt]; omega, b3, .inr ⟨by simp [boxToks], b8, b9, s, by simp⟩⟩
              · obtain ⟨r1, r2⟩ := ptRho_in b6 c k hck
                have hgd : Good U G c := b7 c r1
                rcases r2 with r2 | ⟨r2, r3, r4⟩
                · exact .inl ⟨r2, hgd.1, hgd.2.1, .inl hgd.2.2⟩
                · refine .inr ⟨by omega, by simp only [entNt]; omega, r2, .inl ⟨hgd, fun hin => ?_⟩⟩
                  simp only [boxToks, List.mem_cons] at hin
                  rcases hin with hin | hin
                  · omega
                  · have := boxToks_in (ps := ps) (tk := ptNext p (tk + 1)) k hin
                    omega
            rw [List.cons_append, List.mem_cons, List.mem_append, ← or_assoc] at hck
            rcases hck with hck | hck
            · exact .inl (key hck)
            · rcases hr c k hck with (h | ⟨q1, q2, q3, q4⟩) | ⟨h, hk1⟩
              · exact .inl (.inl h)
              · have hpn : (ptShape p (tk + 1) []).2 = ptNext p (tk + 1) := rfl
                refine .inl (.inr ⟨by omega, q2, q3, ?_⟩)
                rcases q4 with ⟨q4, q5⟩ | ⟨q4, q5, q6, s', q7⟩
                · refine .inl ⟨q4, fun hin => ?_⟩
                  simp only [boxToks, List.mem_cons] at hin
                  rcases hin with hin | hin
                  · omega
                  · exact q5 hin
                · exact .inr ⟨by simp only [boxToks]; exact List.mem_cons_of_mem _ q4, q5, q6, s', by simp [q7]⟩
              · rw [List.mem_append, List.mem_cons] at h
                rcases h with h | h
                · exact .inr ⟨h, hk1⟩
                · exact .inl (key h)
        · cases h
      · cases h
    · cases h
  | .rd τ :: ps, sv :: as, vals, tk, r0, xs, rho, bs, h, hs, h3 => by
    simp only [gather] at h
    split at h
    · rename_i t s v hb
      split at h
      · rename_i x xs' rho' bs' hx hg
        split at h
        · rename_i hf
          simp only [Option.some.injEq, Prod.mk.injEq] at h
          obtain ⟨rfl, rfl, rfl⟩ := h
          have hs0 := hs 0
          simp only [List.getD_cons_zero] at hs0
          obtain ⟨hslot, bk, c, el, b1, b2, b3, b4, b5, b6, b7, b8, b9⟩ := boxOf_ok hI hb hs0.1
          have e := castV_ok hx
          rw [e] at hf b6 b7 ⊢
          obtain ⟨hl, ⟨H2, k2⟩, hr⟩ := gather_ok hI (vals := vals.drop 1) hg (fun i => by have := hs (i + 1); simpa [List.getD_eq_getElem?_getD, Nat.add_comm] using this) h3
          obtain ⟨H1, k1⟩ := pt_canon (sm := fun _ => 1) (hs := [1]) (tk := tk) hf b6 (by omega) (by simp) (by simp)
          refine ⟨by simp [hl], ⟨H2, fun G1 g1 g2 i => ?_⟩, fun c k hck => ?_⟩
          · cases i with
            | zero =>
              simp only [env0, List.getD_cons_zero]
              have hv := k1 G1 (fun c k hck => g1 c k (by simp [hck])) (fun u hu hu2 => by rw [ptNext_shr] at hu2; omega)
              have hlen : c.toList.length = τ.sz := VOk.len hv
              refine ⟨bk, 0, c, el, (0, 0), b1, b5, by simp only [Array.length_toList] at hlen; simp [hlen], ?_, ?_⟩
              · simp [g1 t 1 (by simp) bk b4]
              · simp only [List.drop_zero]
                rw [List.take_of_length_le (Nat.le_of_eq hlen)]
                exact hv
            | succ i =>
              simp only [env0, List.getD_cons_succ]
              have := k2 G1 (fun c k hck => g1 c k (by simp [hck])) (fun u hu hu2 => g2 u hu hu2) i
              simpa [List.getD_eq_getElem?_getD, Nat.add_comm] using this
          · rw [List.cons_append, List.mem_cons, List.mem_append] at hck
            rcases hck with hck | hck | hck
            · simp only [Prod.mk.injEq] at hck
              obtain ⟨rfl, rfl⟩ := hck
              exact .inl (.inl ⟨rfl, by omega, b8, .inr rfl⟩)
            · obtain ⟨r1, r2⟩ := ptRho_in b6 c k hck
              have hgd : Good U G c := b7 c r1
              rw [ptNext_shr] at r2
              rcases r2 with r2 | ⟨r2, r3, r4⟩
              · exact .inl (.inl ⟨r2, hgd.1, hgd.2.1, .inr rfl⟩)
              · omega
            · rcases hr c k hck with (h | ⟨q1, q2, q3, q4⟩) | h
              · exact .inl (.inl ⟨h.1, h.2.1, h.2.2.1, .inr rfl⟩)
              · exact .inl (.inr ⟨q1, q2, q3, q4⟩)
              · exact .inr h
        · cases h
      · cases h
    · cases h
  | .vx e l :: ps, .d v :: as, vals, tk, r0, xs, rho, bs, h, hs, h3 => by
    simp only [gather] at h
    split at h
    · rename_i x xs' rho' bs' hx hg
      split at h
      · rename_i hf
        simp only [Option.some.injEq, Prod.mk.injEq] at h
        obtain ⟨rfl, rfl, rfl⟩ := h
        have hs0 := hs 0
        simp only [List.getD_cons_zero] at hs0
        obtain ⟨⟨cs, hcs, hv⟩, hm⟩ := hs0
        have e := castV_ok hx
        rw [e] at hcs hv hf hm ⊢
        obtain ⟨hl, ⟨H2, k2⟩, hr⟩ := gather_ok hI (vals := vals.drop 1) hg (fun i => by have := hs (i + 1); simpa [List.getD_eq_getElem?_getD, Nat.add_comm] using this) h3
        obtain ⟨H1, k1⟩ := pt_canon (sm := vxC r0 l) (hs := 1 :: l) (tk := tk) hf hv h3 (fun c _ => vxC_in r0 l c) (by simp)
        refine ⟨by simp [hl], ⟨H2, fun G1 g1 g2 i => ?_⟩, fun c k hck => ?_⟩
        · cases i with
          | zero =>
            simp only [env0, List.getD_cons_zero]
            exact ⟨cs, hcs, k1 G1 (fun c k hck => g1 c k (List.mem_append_left _ hck)) (fun u hu hu2 => by
              have : ptNext .shr tk = tk := rfl
              omega)⟩
          | succ i =>
            simp only [env0, List.getD_cons_succ]
            have := k2 G1 (fun c k hck => g1 c k (List.mem_append_right _ hck)) (fun u hu hu2 => g2 u hu hu2) i
            simpa [List.getD_eq_getElem?_getD, Nat.add_comm] using this
        · rcases List.mem_append.1 hck with hck | hck
          · obtain ⟨r1, r2⟩ := ptRho_in hv c k hck
            have hgd : Good U G c := hm.1 c r1
            rcases r2 with r2 | ⟨r2, r3, r4⟩
            · rcases vxC_or r0 l c with h | ⟨h, h1⟩
              · exact .inl (.inl ⟨r2.trans h, hgd.1, hgd.2.1, .inl hgd.2.2⟩)
              · rw [← r2] at h h1
                by_cases hk1 : k = 1
                · exact .inl (.inl ⟨hk1, hgd.1, hgd.2.1, .inl hgd.2.2⟩)
                · exact .inr ⟨h, hk1⟩
            · have : ptNext .shr tk = tk := rfl
              omega
          · rcases hr c k hck with (h | ⟨q1, q2, q3, q4⟩) | h
            · exact .inl (.inl h)
            · exact .inl (.inr ⟨q1, q2, q3, q4⟩)
            · exact .inr h
      · cases h
    · cases h
  | [], _ :: _, _, _, _, _, _, _, h, _, _ | .val _ _ :: _, [], _, _, _, _, _, _, h, _, _ | .io _ _ :: _, [], _, _, _, _, _, _, h, _, _ | .rd _ :: _, [], _, _, _, _, _, _, h, _, _ | .vx _ _ :: _, [], _, _, _, _, _, _, h, _, _ => by simp [gather] at h
  | .vx _ _ :: _, .no :: _, _, _, _, _, _, _, h, _, _ | .vx _ _ :: _, .box _ _ :: _, _, _, _, _, _, _, h, _, _ | .vx _ _ :: _, .ptr .. :: _, _, _, _, _, _, _, h, _, _ | .vx _ _ :: _, .ept .. :: _, _, _, _, _, _, _, h, _, _
  | .vx _ _ :: _, .rdp .. :: _, _, _, _, _, _, _, h, _, _ | .vx _ _ :: _, .tup _ :: _, _, _, _, _, _, _, h, _, _ | .vx _ _ :: _, .g .. :: _, _, _, _, _, _, _, h, _, _ => by simp [gather] at h
  | .val _ _ :: _, .no :: _, _, _, _, _, _, _, h, _, _ | .val _ _ :: _, .box _ _ :: _, _, _, _, _, _, _, h, _, _ | .val _ _ :: _, .ptr .. :: _, _, _, _, _, _, _, h, _, _ | .val _ _ :: _, .ept .. :: _, _, _, _, _, _, _, h, _, _
  | .val _ _ :: _, .rdp .. :: _, _, _, _, _, _, _, h, _, _ | .val _ _ :: _, .tup _ :: _, _, _, _, _, _, _, h, _, _ | .val _ _ :: _, .g .. :: _, _, _, _, _, _, _, h, _, _ => by simp [gather] at h

end
end Vg

/- VG, part 23: contracts; what a function finds at its door. -/
namespace Vg
open Go

theorem lookup_mem : ∀ {l : List (Nat × Nat)} {a b : Nat}, l.lookup a = some b → (a, b) ∈ l
  | [], _, _, h => by simp [List.lookup] at h
  | (x, y) :: l, a, b, h => by
    simp only [List.lookup] at h
    split at h
    · rename_i e
      simp only [beq_iff_eq] at e
      simp only [Option.some.injEq] at h
      subst e h; simp
    · exact List.mem_cons_of_mem _ (lookup_mem h)

theorem rhoOk_spec {r : List (Nat × Nat)} (h : rhoOk r = true) {c k : Nat} (hc : (c, k) ∈ r) : r.lookup c = some k := by
  simp only [rhoOk, List.all_eq_true, beq_iff_eq] at h
  exact h (c, k) hc

/-- The boxes that come in: their tokens, their places. -/
def entBox : List PK → Nat → Nat → List (Nat × Nat)
  | [], _, _ => []
  | .val _ p :: ps, i, te => entBox ps (i + 1) (ptNext p te)
  | .io _ p :: ps, i, te => (te, i) :: entBox ps (i + 1) (ptNext p (te + 1))
  | .rd _ :: ps, i, te | .vx _ _ :: ps, i, te => entBox ps (i + 1) te

/-- The value of several results. -/
def resVal : List Value → Value
  | [v] => v
  | l => .tuple l.toArray

/-- What a function leaves behind. -/
structure Post (con : Con) (w : World) (G0 : Gh) (args : List Value) (y : TupD (con.rs.map RK.ty ++ ioTys con.ps)) (mv : Value) (w' : World) (G' : Gh) (vs : List Value) (nt : Nat) : Prop where
  val : mv = resVal vs
  len : vs.length = con.rs.length
  res : ∀ i, SOk w' G' ((scatter con.rs (ioTys con.ps) y (entNt con.ps 3) [2, 1]).1.getD i .no) (vs.getD i undef)
  ios : ∀ t i v, (t, i, v) ∈ iosOf [2, 1] con.ps (scatter con.rs (ioTys con.ps) y (entNt con.ps 3) [2, 1]).2.1 (entBox con.ps 0 3) (scatter con.rs (ioTys con.ps) y (entNt con.ps 3) [2, 1]).2.2 →
    SOk w' G' (.box t v) (args.getD i undef)
  frame : ∀ b, b < w.heap.size → G0.col b < 3 → G'.col b = G0.col b ∧ w'.heap[b]? = w.heap[b]?
  one : ∀ b, G'.col b = 1 → b < w.heap.size ∧ G0.col b = 1
  size : w.heap.size ≤ w'.heap.size
  os : w'.os = w.os
  tape : w'.tape = w.tape
  output : w'.output = w.output
  lt : ∀ b, 0 < G'.col b → b < w'.heap.size
  fresh : ∀ b, 3 ≤ G'.col b → ∃ c el, w'.heap[b]? = some (.cells c el (0, 0))
  kept : ∀ q ∈ con.kp, ∀ te i τ, (entBox con.ps 0 3)[q.1]? = some (te, i) → (ioTys con.ps)[q.1]? = some τ → ∀ bk c el c' el', args.getD i undef = .pointer (some ⟨bk, 0, none⟩) →
    w.heap[bk]? = some (.cells c el (0, 0)) → w'.heap[bk]? = some (.cells c' el' (0, 0)) → c'.toList[τ.off q.2]? = c.toList[τ.off q.2]?

/-- A call of a function: it enters, or the model carries it out itself. -/
def Upon (P : Program) (f : FuncId) (args : Array Value) (w : World) (R : Value → World → Prop) : Prop :=
  match (callFunc f args).run P w with
  | .ok (.enter f' args') w1 => Calls P f' args' w1 (fun e w' => ∃ v, e = .returned v ∧ R v w')
  | .ok (.value v) w1 => R v w1
  | _ => False

/-- A function does what its contract says. -/
def Meets (P : Program) (f : FuncId) (con : Con) : Prop :=
  ∀ (w : World) (G0 : Gh) (args : List Value) (x : TupD (con.ps.map PK.ty)) (y : TupD (con.rs.map RK.ty ++ ioTys con.ps)), con.F x = some y →
    Lot w G0 (env0 con.ps x 3).1 args (entNt con.ps 3) → Upon P f args.toArray w (fun mv w' => ∃ G' vs nt, Post con w G0 args y mv w' G' vs nt)

section
variable {P : Program} {C : Cx} {w0 : World} {c0 : C0} {U : Nat → Prop} {E : Env} {a : Act} {w : World} {G : Gh} {ops : List Oper} {g : Option (Nat × Bool)}

theorem lot_ok (hI : Inv w0 c0 U E a w G) {ps : List PK} {as : List SV} {vals : List Value} {xs : TupD (ps.map PK.ty)} {rho bs : List (Nat × Nat)}
    (h : gather E.rd ps as 3 [] = some (xs, rho, bs)) (hs : ∀ i, SOk w G (as.getD i .no) (vals.getD i undef) ∧ Ment U G (as.getD i .no)) (hlen : vals.length = as.length) (hr : rhoOk rho = true)
    (hvx : ∀ c ∈ vxs ps, 3 ≤ c ∧ c < entNt ps 3 ∧ c ∉ boxToks ps 3) :
    ∃ G1 : Gh, Lot w G1 (env0 ps xs 3).1 vals (entNt ps 3) ∧ (∀ b, G1.col b = (rho.lookup (G.col b)).getD 0) := by
  obtain ⟨hl, ⟨H, k⟩, hin0⟩ := gather_ok hI h hs (Nat.le_refl _)
  have hin : ∀ c k, (c, k) ∈ rho → RhoIn U G ps 3 bs c k := fun c k h => (hin0 c k h).resolve_right (by simp)
  have hnt := entNt_ge ps 3
  refine ⟨⟨fun b => (rho.lookup (G.col b)).getD 0, H, fun u => (boxToks ps 3).contains u⟩, ⟨?_, ?_, ?_, ?_, ?_, ?_, ?_, ?_⟩, fun b => rfl⟩
  · rw [env0_len, ← hl, hlen]
  · intro i
    refine k _ (fun c k hck b hb => ?_) (fun u _ _ => rfl) i
    simp only [hb, rhoOk_spec hr hck, Option.getD_some]
  · intro i
    by_cases hi : i < (env0 ps xs 3).1.length
    · have hmem : (env0 ps xs 3).1.getD i .no ∈ (env0 ps xs 3).1 := by
        rw [List.getD_eq_getElem?_getD, List.getElem?_eq_getElem hi]; simp
      obtain ⟨h1, h2, h3⟩ := env0_static _ hmem
      refine ⟨fun c hc => ?_, fun c hc => ?_, by rw [h3]; simp⟩
      · rcases h1 c hc with rfl | ⟨q1, q2, q3⟩ | hvc
        · refine ⟨by omega, by omega, ?_⟩
          simp only [List.contains_eq_mem, decide_eq_false_iff_not]
          intro hin
          have := boxToks_in 1 hin; omega
        · exact ⟨by omega, q2, by simp only [List.contains_eq_mem, decide_eq_false_iff_not]; exact q3⟩
        · obtain ⟨q1, q2, q3⟩ := hvx c hvc
          exact ⟨by omega, q2, by simp only [List.contains_eq_mem, decide_eq_false_iff_not]; exact q3⟩
      · have := boxToks_in c (h2 c hc)
        exact ⟨by omega, this.2, by simp only [List.contains_eq_mem, decide_eq_true_eq]; exact h2 c hc⟩
    · rw [List.getD_eq_getElem?_getD, List.getElem?_eq_none (by omega)]
      simp [Ment, SV.sc, SV.bt, SV.rt]
  · intro i j t v v' h h'
    exact env0_uni h h'
  · intro b hb
    simp only at hb ⊢
    cases hq : rho.lookup (G.col b) with
    | none => rw [hq] at hb; simp at hb
    | some k =>
      simp only [Option.getD_some]
      rcases hin _ _ (lookup_mem hq) with ⟨rfl, hg⟩ | ⟨q1, q2, q3, _⟩
      · exact ⟨by omega, hI.lt b hg.1⟩
      · exact ⟨q2, hI.lt b (by omega)⟩
  · intro b hb
    simp only at hb
    cases hq : rho.lookup (G.col b) with
    | none => rw [hq] at hb; simp at hb
    | some k =>
      rw [hq] at hb
      simp only [Option.getD_some] at hb
      rcases hin _ _ (lookup_mem hq) with ⟨rfl, _⟩ | ⟨q1, q2, q3, _⟩
      · omega
      · exact hI.fresh b q3
  · simp only [List.contains_eq_mem, decide_eq_false_iff_not]
    intro h2
    have := boxToks_in 2 h2; omega
  · intro b
    simp only
    cases hq : rho.lookup (G.col b) with
    | none => simp
    | some k =>
      simp only [Option.getD_some]
      rcases hin _ _ (lookup_mem hq) with ⟨rfl, _⟩ | ⟨q1, q2, q3, _⟩ <;> omega

end
end Vg

/- VG, part 24: what comes back from a call. -/
namespace Vg
open Go

theorem ptNext_shift : ∀ (p : Pt) (k d : Nat), ptNext p (k + d) = ptNext p k + d
  | .leaf, _, _ | .shr, _, _ => rfl
  | .own, k, d | .hd, k, d | .pv, k, d => by simp only [ptNext, ptShape]; omega
  | .pair a b, k, d => by rw [ptNext_pair, ptNext_pair, ptNext_shift a, ptNext_shift b]

theorem resNt_val (τ : Ty) (p : Pt) (rs : List RK) (k : Nat) : resNt (.val τ p :: rs) k = resNt rs (ptNext p k) := rfl
theorem resNt_nbox (τ : Ty) (p : Pt) (rs : List RK) (k : Nat) : resNt (.nbox τ p :: rs) k = resNt rs (ptNext p (k + 1)) := rfl
theorem ioNt_io (τ : Ty) (p : Pt) (ps : List PK) (k : Nat) : ioNt (.io τ p :: ps) k = ioNt ps (ptNext p k) := rfl

theorem resNt_shift : ∀ (rs : List RK) (k d : Nat), resNt rs (k + d) = resNt rs k + d
  | [], _, _ => rfl
  | .val _ p :: rs, k, d => by rw [resNt_val, resNt_val, ptNext_shift, resNt_shift rs]
  | .nbox _ p :: rs, k, d => by rw [resNt_nbox, resNt_nbox, show k + d + 1 = k + 1 + d by omega, ptNext_shift, resNt_shift rs]

theorem ioNt_shift : ∀ (ps : List PK) (k d : Nat), ioNt ps (k + d) = ioNt ps k + d
  | [], _, _ => rfl
  | .val _ _ :: ps, k, d | .rd _ :: ps, k, d | .vx _ _ :: ps, k, d => ioNt_shift ps k d
  | .io _ p :: ps, k, d => by rw [ioNt_io, ioNt_io, ptNext_shift, ioNt_shift ps]

theorem resNt_ge : ∀ (rs : List RK) (k : Nat), k ≤ resNt rs k
  | [], _ => Nat.le_refl _
  | .val _ p :: rs, k => Nat.le_trans (ptNext_ge p k) (resNt_ge rs _)
  | .nbox _ p :: rs, k => Nat.le_trans (Nat.le_trans (Nat.le_succ _) (ptNext_ge p (k + 1))) (resNt_ge rs _)

theorem ioNt_ge : ∀ (ps : List PK) (k : Nat), k ≤ ioNt ps k
  | [], _ => Nat.le_refl _
  | .val _ p :: ps, k => ioNt_ge ps k
  | .rd _ :: ps, k | .vx _ _ :: ps, k => ioNt_ge ps k
  | .io _ p :: ps, k => Nat.le_trans (ptNext_ge p k) (ioNt_ge ps _)

def resBox : List RK → Nat → List Nat
  | [], _ => []
  | .val _ p :: rs, k => resBox rs (ptNext p k)
  | .nbox _ p :: rs, k => k :: resBox rs (ptNext p (k + 1))

theorem resBox_in : ∀ {rs : List RK} {k : Nat}, ∀ c ∈ resBox rs k, k ≤ c ∧ c < resNt rs k
  | [], _, c, h => by simp [resBox] at h
  | .val _ p :: rs, k, c, h => by
    have := resBox_in (rs := rs) (k := ptNext p k) c h
    have h1 := ptNext_ge p k
    rw [resNt_val]; omega
  | .nbox _ p :: rs, k, c, h => by
    have h1 := ptNext_ge p (k + 1)
    have h2 := resNt_ge rs (ptNext p (k + 1))
    rw [resNt_nbox]
    simp only [resBox, List.mem_cons] at h
    rcases h with rfl | h
    · omega
    · have := resBox_in (rs := rs) (k := ptNext p (k + 1)) c h; omega

/-- Colours and heads pass from canonical tokens to others. -/
structure Recol (G' G2 : Gh) (k0 n tk : Nat) (hs : List Nat) : Prop where
  own : ∀ u, k0 ≤ u → u < n → G2.hdr (tk + (u - k0)) = G'.hdr u ∧ ∀ b, G'.col b = u → G2.col b = tk + (u - k0)
  shr : ∀ b, G'.col b ∈ [2, 1] → G2.col b ∈ hs
  ne : hs ≠ []

section
variable {w' : World} {G' G2 : Gh} {k0 n tk : Nat} {hs : List Nat}

theorem recol_pt (h : Recol G' G2 k0 n tk hs) (h3 : 3 ≤ tk) {p : Pt} {τ : Ty} {x : τ.den} {cs : List Value} {k : Nat} (hk : k0 ≤ k) (hn : ptNext p k ≤ n) (hv : VOk w' G' τ x (ptShape p k [2, 1]).1 cs) :
    VOk w' G2 τ x (ptShape p (tk + (k - k0)) hs).1 cs := by
  refine (pt_recol hv (by omega) (fun u hu hu2 => ?_) h.shr h.ne).1
  have := h.own u (by omega) (by omega)
  rw [show tk + (k - k0) + (u - k) = tk + (u - k0) by omega]
  exact this

/-- Results: their tokens, what is left, what they say. -/
theorem scatter_ok (h3 : 3 ≤ tk) : ∀ {rs : List RK} {rest : List Ty} {y : TupD (rs.map RK.ty ++ rest)} {k : Nat}, k0 ≤ k → ∀ (hs' : List Nat),
    (scatter rs rest y (tk + (k - k0)) hs').2.1 = (scatter rs rest y k [2, 1]).2.1 ∧ (scatter rs rest y (tk + (k - k0)) hs').2.2 = tk + (resNt rs k - k0) ∧ (scatter rs rest y k [2, 1]).2.2 = resNt rs k ∧
    (scatter rs rest y (tk + (k - k0)) hs').1.length = rs.length ∧
    (Recol G' G2 k0 n tk hs' → resNt rs k ≤ n → ∀ (vs : List Value), (∀ i, SOk w' G' ((scatter rs rest y k [2, 1]).1.getD i .no) (vs.getD i undef)) → ∀ i, SOk w' G2 ((scatter rs rest y (tk + (k - k0)) hs').1.getD i .no) (vs.getD i undef)) ∧
    (∀ sv ∈ (scatter rs rest y (tk + (k - k0)) hs').1, (∀ c ∈ sv.sc, (c ∈ hs' ∧ rs.any (fun r => r.pt.hasShr) = true) ∨ (tk + (k - k0) ≤ c ∧ c < tk + (resNt rs k - k0) ∧ c ∉ resBox rs (tk + (k - k0)))) ∧ (∀ c ∈ sv.bt, c ∈ resBox rs (tk + (k - k0))) ∧ sv.rt = [])
  | [], rest, y, k, hk, hs' => ⟨rfl, rfl, rfl, rfl, fun _ _ vs _ i => by simp [scatter, SOk], by simp [scatter]⟩
  | .val τ p :: rs, rest, y, k, hk, hs' => by
    have n1 := ptNext_ge p k
    have n2 := resNt_ge rs (ptNext p k)
    obtain ⟨i1, i2, i3, i4, i5, i6⟩ := scatter_ok h3 (rs := rs) (rest := rest) (y := y.2) (k := ptNext p k) (by omega) hs'
    have e1 : (ptShape p (tk + (k - k0)) hs').2 = tk + (ptNext p k - k0) := by
      rw [ptNext_eq, show tk + (k - k0) = (k - k0) + tk by omega, ptNext_shift]
      have := ptNext_shift p (k - k0) k0
      rw [show k - k0 + k0 = k by omega] at this
      omega
    have e2 : ptNext p (tk + (k - k0)) = tk + (ptNext p k - k0) := (ptNext_eq p _ hs').symm.trans e1
    simp only [scatter, e1, ptNext_eq p k [2, 1], resNt_val]
    refine ⟨i1, i2, i3, by simp [i4], fun hr hn vs hv i => ?_, fun sv hsv => ?_⟩
    · cases i with
      | zero =>
        have := hv 0
        simp only [List.getD_cons_zero] at this ⊢
        obtain ⟨cs, hcs, hvv⟩ := this
        exact ⟨cs, hcs, recol_pt hr h3 hk (by omega) hvv⟩
      | succ i =>
        simp only [List.getD_cons_succ]
        have := i5 hr hn (vs.drop 1) (fun j => by have := hv (j + 1); simpa [List.getD_eq_getElem?_getD, Nat.add_comm] using this) i
        simpa [List.getD_eq_getElem?_getD, Nat.add_comm] using this
    · simp only [List.mem_cons] at hsv
      rcases hsv with rfl | hsv
      · refine ⟨fun c hc => ?_, by simp [SV.bt], rfl⟩
        rcases ptShape_shared c hc with h | h
        · exact .inl ⟨h.1, by simp [RK.pt, h.2]⟩
        · rw [e2] at h
          refine .inr ⟨h.1, by omega, fun hin => ?_⟩
          simp only [resBox] at hin
          rw [e2] at hin
          have := resBox_in c hin
          omega
      · obtain ⟨q1, q2, q3⟩ := i6 sv hsv
        simp only [resBox]
        rw [e2]
        exact ⟨fun c hc => (q1 c hc).imp (fun h => ⟨h.1, by simp only [List.any_cons, h.2, Bool.or_true]⟩) (fun ⟨r1, r2, r3⟩ => ⟨by omega, r2, r3⟩), q2, q3⟩
  | .nbox τ p :: rs, rest, y, k, hk, hs' => by
    have n1 := ptNext_ge p (k + 1)
    have n2 := resNt_ge rs (ptNext p (k + 1))
    obtain ⟨i1, i2, i3, i4, i5, i6⟩ := scatter_ok h3 (rs := rs) (rest := rest) (y := y.2) (k := ptNext p (k + 1)) (by omega) hs'
    have e1 : (ptShape p (tk + (k - k0) + 1) hs').2 = tk + (ptNext p (k + 1) - k0) := by
      rw [ptNext_eq, show tk + (k - k0) + 1 = (k + 1 - k0) + tk by omega, ptNext_shift]
      have := ptNext_shift p (k + 1 - k0) k0
      rw [show k + 1 - k0 + k0 = k + 1 by omega] at this
      omega
    have e2 : ptNext p (tk + (k - k0) + 1) = tk + (ptNext p (k + 1) - k0) := (ptNext_eq p _ hs').symm.trans e1
    simp only [scatter, e1, ptNext_eq p (k + 1) [2, 1], resNt_nbox]
    refine ⟨i1, i2, i3, by simp [i4], fun hr hn vs hv i => ?_, fun sv hsv => ?_⟩
    · cases i with
      | zero =>
        have := hv 0
        simp only [List.getD_cons_zero] at this ⊢
        obtain ⟨bk, c, el, g1, g2, g3, g4, g5, g6⟩ := this
        obtain ⟨r1, r2⟩ := hr.own k hk (by omega)
        refine ⟨bk, c, el, g1, by omega, r1.trans g3, r2 bk g4, g5, ?_⟩
        have := recol_pt hr h3 (k := k + 1) (by omega) (by omega) g6
        rw [show tk + (k + 1 - k0) = tk + (k - k0) + 1 by omega] at this
        exact this
      | succ i =>
        simp only [List.getD_cons_succ]
        have := i5 hr hn (vs.drop 1) (fun j => by have := hv (j + 1); simpa [List.getD_eq_getElem?_getD, Nat.add_comm] using this) i
        simpa [List.getD_eq_getElem?_getD, Nat.add_comm] using this
    · simp only [List.mem_cons] at hsv
      rcases hsv with rfl | hsv
      · refine ⟨fun c hc => ?_, by simp [SV.bt, resBox], rfl⟩
        rcases ptShape_shared c hc with h | h
        · exact .inl ⟨h.1, by simp [RK.pt, h.2]⟩
        · rw [e2] at h
          refine .inr ⟨by omega, by omega, fun hin => ?_⟩
          simp only [resBox, List.mem_cons] at hin
          rw [e2] at hin
          rcases hin with hin | hin
          · omega
          · have := resBox_in c hin
            omega
      · obtain ⟨q1, q2, q3⟩ := i6 sv hsv
        simp only [resBox]
        rw [e2]
        refine ⟨fun c hc => (q1 c hc).imp (fun h => ⟨h.1, by simp only [List.any_cons, h.2, Bool.or_true]⟩) (fun ⟨r1, r2, r3⟩ => ⟨by omega, r2, ?_⟩), fun c hc => by simp [q2 c hc], q3⟩
        simp only [List.mem_cons, not_or]
        exact ⟨by omega, r3⟩

end
end Vg

/- VG, part 25: the return from a call. -/
namespace Vg
open Go

theorem putBoxes_len : ∀ (l : List (Nat × Nat × TV)) (L : List SV), (putBoxes l L).length = L.length
  | [], _ => rfl
  | (t, s, v) :: l, L => by simp only [putBoxes]; rw [putBoxes_len l]; simp

theorem putBoxes_get : ∀ (l : List (Nat × Nat × TV)) (L : List SV) (j : Nat), (putBoxes l L).getD j .no = L.getD j .no ∨ ∃ t v, (t, j, v) ∈ l ∧ (putBoxes l L).getD j .no = .box t v
  | [], _, _ => .inl rfl
  | (t, s, v) :: l, L, j => by
    simp only [putBoxes]
    rcases putBoxes_get l (L.set s (.box t v)) j with h | ⟨t', v', h1, h2⟩
    · rw [h, get_set]
      split
      · rename_i e; obtain ⟨rfl, _⟩ := e; exact .inr ⟨t, v, by simp, rfl⟩
      · exact .inl rfl
    · exact .inr ⟨t', v', by simp [h1], h2⟩

/-- The slots that are put anew, empty. -/
def dropBoxes : List (Nat × Nat × TV) → List SV → List SV
  | [], L => L
  | (_, s, _) :: l, L => dropBoxes l (L.set s .no)

theorem putBoxes_congr : ∀ (l : List (Nat × Nat × TV)) {L L' : List SV}, L.length = L'.length → (∀ j, (∀ t v, (t, j, v) ∉ l) → L.getD j .no = L'.getD j .no) → putBoxes l L = putBoxes l L'
  | [], L, L', hl, h => by
    refine List.ext_getElem hl (fun i h1 h2 => ?_)
    have := h i (by simp)
    rw [List.getD_eq_getElem?_getD, List.getD_eq_getElem?_getD] at this
    simp only [putBoxes] at h1 h2 ⊢
    rw [List.getElem?_eq_getElem h1, List.getElem?_eq_getElem h2] at this
    simpa using this
  | (t, s, v) :: l, L, L', hl, h => by
    simp only [putBoxes]
    refine putBoxes_congr l (by simpa using hl) (fun j hj => ?_)
    rw [get_set, get_set, hl]
    by_cases e : j = s ∧ s < L'.length
    · rw [if_pos e, if_pos e]
    · rw [if_neg e, if_neg e]
      by_cases e2 : j = s
      · subst e2
        have hlt : ¬ j < L'.length := fun hh => e ⟨rfl, hh⟩
        rw [List.getD_eq_getElem?_getD, List.getD_eq_getElem?_getD, List.getElem?_eq_none (by omega), List.getElem?_eq_none (by omega)]
      · refine h j (fun t' v' hin => ?_)
        simp only [List.mem_cons, Prod.mk.injEq] at hin
        rcases hin with ⟨_, hin, _⟩ | hin
        · exact e2 hin
        · exact hj t' v' hin

theorem dropBoxes_len : ∀ (l : List (Nat × Nat × TV)) (L : List SV), (dropBoxes l L).length = L.length
  | [], _ => rfl
  | (t, s, v) :: l, L => by simp only [dropBoxes]; rw [dropBoxes_len l]; simp

theorem dropBoxes_get : ∀ (l : List (Nat × Nat × TV)) (L : List SV) (j : Nat), (∀ t v, (t, j, v) ∉ l) → (dropBoxes l L).getD j .no = L.getD j .no
  | [], _, _, _ => rfl
  | (t, s, v) :: l, L, j, h => by
    simp only [dropBoxes]
    rw [dropBoxes_get l _ j (fun t' v' hin => h t' v' (by simp [hin])), get_set, if_neg]
    rintro ⟨rfl, _⟩
    exact h t v (by simp)

theorem dropBoxes_in : ∀ (l : List (Nat × Nat × TV)) (L : List SV) (j : Nat), (∃ t v, (t, j, v) ∈ l) → (dropBoxes l L).getD j .no = .no ∧ True
  | (t, s, v) :: l, L, j, ⟨t', v', h⟩ => by
    simp only [dropBoxes]
    by_cases hin : ∃ t v, (t, j, v) ∈ l
    · exact dropBoxes_in l _ j hin
    · refine ⟨?_, trivial⟩
      rw [dropBoxes_get l _ j (fun t v h => hin ⟨t, v, h⟩), get_set]
      simp only [List.mem_cons, Prod.mk.injEq] at h
      rcases h with ⟨_, rfl, _⟩ | h
      · split
        · rfl
        · rename_i e
          rw [List.getD_eq_getElem?_getD, List.getElem?_eq_none (by simp at e; omega)]; rfl
      · exact absurd ⟨t', v', h⟩ hin

theorem put_drop (l : List (Nat × Nat × TV)) (L : List SV) : putBoxes l (dropBoxes l L) = putBoxes l L :=
  putBoxes_congr l (dropBoxes_len l L) (fun j hj => dropBoxes_get l L j hj)

section
variable {P : Program} {C : Cx} {w0 : World} {c0 : C0} {U : Nat → Prop} {E : Env} {a : Act} {w : World} {G : Gh} {ops : List Oper} {g : Option (Nat × Bool)}

theorem Inv.dropAll : ∀ (l : List (Nat × Nat × TV)) {E : Env}, Inv w0 c0 U E a w G → Inv w0 c0 U { E with s := dropBoxes l E.s } a w G
  | [], _, h => h
  | (_, s, _) :: l, E, h => Inv.dropAll l (E := { E with s := E.s.set s .no }) (h.drop s)

theorem Inv.putAll : ∀ (l : List (Nat × Nat × TV)) {E : Env}, Inv w0 c0 U E a w G → (∀ t s v, (t, s, v) ∈ l → SOk w G (.box t v) (a.tmps.getD s undef) ∧ Ment U G (.box t v)) →
    (l.map (·.1)).Pairwise (· ≠ ·) → (∀ t s v, (t, s, v) ∈ l → ∀ s' u, E.s.getD s' .no ≠ .box t u) → Inv w0 c0 U { E with s := putBoxes l E.s } a w G
  | [], _, h, _, _, _ => h
  | (t, s, v) :: l, E, h, h1, h2, h3 => by
    simp only [List.map_cons, List.pairwise_cons] at h2
    obtain ⟨g1, g2⟩ := h1 t s v (by simp)
    refine Inv.putAll l (E := { E with s := E.s.set s (.box t v) }) (h.setE s g1 g2 ?_) (fun t' s' v' hin => h1 t' s' v' (by simp [hin])) h2.2 (fun t' s' v' hin s'' u he => ?_)
    · rintro t' u ⟨rfl, rfl⟩ s' u' _ he
      exact h3 t s v (by simp) s' u' he
    · simp only [get_set] at he
      split at he
      · simp only [SV.box.injEq] at he
        exact h2.1 t' (List.mem_map.2 ⟨(t', s', v'), hin, rfl⟩) he.1
      · exact h3 t' s' v' (by simp [hin]) s'' u he

/-- The pointed-to parameters: the caller's and the callee's. -/
theorem ios_rel (hI : Inv w0 c0 U E a w G) {k0 tk : Nat} {hs' : List Nat} : ∀ {ps : List PK} {as : List SV} {vals : List Value} {te i0 : Nat} {r0 : List (Nat × Nat)} {xs : TupD (ps.map PK.ty)} {rho bs : List (Nat × Nat)},
    gather E.rd ps as te r0 = some (xs, rho, bs) → (∀ i, SOk w G (as.getD i .no) (vals.getD i undef)) → ∀ (R : TupD (ioTys ps)) (k : Nat), k0 ≤ k →
    (∀ t s v2, (t, s, v2) ∈ iosOf hs' ps R bs (tk + (k - k0)) → ∃ te' i v1 p k1 v0, (te', i0 + i, v1) ∈ iosOf [2, 1] ps R (entBox ps i0 te) k ∧ (t, te') ∈ rho ∧ te' ∈ boxToks ps te ∧
      E.s.getD s .no = .box t v0 ∧ vals.getD i undef = G.hdr t ∧ k ≤ k1 ∧ ptNext p k1 ≤ ioNt ps k ∧ v1 = ⟨v2.τ, v2.x, (ptShape p k1 [2, 1]).1⟩ ∧ v2.sh = (ptShape p (tk + (k1 - k0)) hs').1 ∧ (p.hasShr = true → ioShr ps = true)) ∧
    (∀ t s, (t, s) ∈ bs → ∃ v2, (t, s, v2) ∈ iosOf hs' ps R bs (tk + (k - k0)))
  | [], [], vals, te, i0, r0, xs, rho, bs, h, hs, R, k, hk => by
    simp only [gather, Option.some.injEq, Prod.mk.injEq] at h
    obtain ⟨_, rfl, rfl⟩ := h
    simp [iosOf]
  | .val τ p :: ps, .d v :: as, vals, te, i0, r0, xs, rho, bs, h, hs, R, k, hk => by
    simp only [gather] at h
    split at h
    · rename_i x xs' rho' bs' hx hg
      split at h
      · simp only [Option.some.injEq, Prod.mk.injEq] at h
        obtain ⟨_, rfl, rfl⟩ := h
        obtain ⟨h1, h2⟩ := ios_rel hI (k0 := k0) (tk := tk) (hs' := hs') (i0 := i0 + 1) (vals := vals.drop 1) hg (fun i => by have := hs (i + 1); simpa [List.getD_eq_getElem?_getD, Nat.add_comm] using this) R k hk
        refine ⟨fun t s v2 hin => ?_, fun t s hin => h2 t s hin⟩
        obtain ⟨te', i, v1, p', k1, v0, q1, q2, q3, q4, q5, q6, q7, q8, q9⟩ := h1 t s v2 hin
        exact ⟨te', i + 1, v1, p', k1, v0, by simp only [entBox, iosOf]; rw [show i0 + (i + 1) = i0 + 1 + i by omega]; exact q1, List.mem_append_right _ q2, q3, q4,
          by rw [← q5]; simp [List.getD_eq_getElem?_getD, Nat.add_comm], q6, q7, q8, q9⟩
      · cases h
    · cases h
  | .io τ p :: ps, sv :: as, vals, te, i0, r0, xs, rho, bs, h, hs, R, k, hk => by
    simp only [gather] at h
    split at h
    · rename_i t0 s0 v hb
      split at h
      · rename_i x xs' rho' bs' hx hg
        split at h
        · simp only [Option.some.injEq, Prod.mk.injEq] at h
          obtain ⟨_, rfl, rfl⟩ := h
          have n1 := ptNext_ge p k
          have e1 : (ptShape p (tk + (k - k0)) hs').2 = tk + (ptNext p k - k0) := by
            rw [ptNext_eq, show tk + (k - k0) = (k - k0) + tk by omega, ptNext_shift]
            have := ptNext_shift p (k - k0) k0
            rw [show k - k0 + k0 = k by omega] at this
            omega
          obtain ⟨h1, h2⟩ := ios_rel hI (k0 := k0) (tk := tk) (hs' := hs') (i0 := i0 + 1) (vals := vals.drop 1) hg (fun i => by have := hs (i + 1); simpa [List.getD_eq_getElem?_getD, Nat.add_comm] using this) R.2 (ptNext p k) (by omega)
          have hs0 := hs 0
          simp only [List.getD_cons_zero] at hs0
          obtain ⟨hslot, bk, c, el, b1, b2, _⟩ := boxOf_ok hI hb hs0
          refine ⟨fun t s v2 hin => ?_, fun t s hin => ?_⟩
          · simp only [iosOf, List.mem_cons, Prod.mk.injEq] at hin
            rcases hin with ⟨rfl, rfl, rfl⟩ | hin
            · refine ⟨te, 0, _, p, k, _, by simp only [entBox, iosOf]; exact List.mem_cons_self .., by simp, by simp [boxToks], hslot, b2.symm, Nat.le_refl _, ioNt_ge ps _, rfl, rfl, fun h => by simp [ioShr, h]⟩
            · rw [e1] at hin
              obtain ⟨te', i, v1, p', k1, v0, q1, q2, q3, q4, q5, q6, q7, q8, q9⟩ := h1 t s v2 hin
              refine ⟨te', i + 1, v1, p', k1, v0, ?_, by simp [q2], by simp only [boxToks]; exact List.mem_cons_of_mem _ q3, q4,
                by rw [← q5]; simp [List.getD_eq_getElem?_getD, Nat.add_comm], by omega, q7, q8, q9.1, fun h => by simp [ioShr, q9.2 h]⟩
              simp only [entBox, iosOf, ptNext_eq]
              rw [show i0 + (i + 1) = i0 + 1 + i by omega]
              exact List.mem_cons_of_mem _ q1
          · simp only [List.mem_cons, Prod.mk.injEq] at hin
            simp only [iosOf, e1, List.mem_cons, Prod.mk.injEq]
            rcases hin with ⟨rfl, rfl⟩ | hin
            · exact ⟨_, .inl ⟨rfl, rfl, rfl⟩⟩
            · obtain ⟨v2, hv2⟩ := h2 t s hin
              exact ⟨v2, .inr hv2⟩
        · cases h
      · cases h
    · cases h
  | .rd τ :: ps, sv :: as, vals, te, i0, r0, xs, rho, bs, h, hs, R, k, hk => by
    simp only [gather] at h
    split at h
    · split at h
      · rename_i x xs' rho' bs' hx hg
        split at h
        · simp only [Option.some.injEq, Prod.mk.injEq] at h
          obtain ⟨_, rfl, rfl⟩ := h
          obtain ⟨h1, h2⟩ := ios_rel hI (k0 := k0) (tk := tk) (hs' := hs') (i0 := i0 + 1) (vals := vals.drop 1) hg (fun i => by have := hs (i + 1); simpa [List.getD_eq_getElem?_getD, Nat.add_comm] using this) R k hk
          refine ⟨fun t s v2 hin => ?_, fun t s hin => h2 t s hin⟩
          obtain ⟨te', i, v1, p', k1, v0, q1, q2, q3, q4, q5, q6, q7, q8, q9⟩ := h1 t s v2 hin
          exact ⟨te', i + 1, v1, p', k1, v0, by simp only [entBox, iosOf]; rw [show i0 + (i + 1) = i0 + 1 + i by omega]; exact q1, List.mem_append_right _ q2, q3, q4,
            by rw [← q5]; simp [List.getD_eq_getElem?_getD, Nat.add_comm], q6, q7, q8, q9⟩
        · cases h
      · cases h
    · cases h
  | .vx e l :: ps, .d v :: as, vals, te, i0, r0, xs, rho, bs, h, hs, R, k, hk => by
    simp only [gather] at h
    split at h
    · rename_i x xs' rho' bs' hx hg
      split at h
      · simp only [Option.some.injEq, Prod.mk.injEq] at h
        obtain ⟨_, rfl, rfl⟩ := h
        obtain ⟨h1, h2⟩ := ios_rel hI (k0 := k0) (tk := tk) (hs' := hs') (i0 := i0 + 1) (vals := vals.drop 1) hg (fun i => by have := hs (i + 1); simpa [List.getD_eq_getElem?_getD, Nat.add_comm] using this) R k hk
        refine ⟨fun t s v2 hin => ?_, fun t s hin => h2 t s hin⟩
        obtain ⟨te', i, v1, p', k1, v0, q1, q2, q3, q4, q5, q6, q7, q8, q9⟩ := h1 t s v2 hin
        exact ⟨te', i + 1, v1, p', k1, v0, by simp only [entBox, iosOf]; rw [show i0 + (i + 1) = i0 + 1 + i by omega]; exact q1, List.mem_append_right _ q2, q3, q4,
          by rw [← q5]; simp [List.getD_eq_getElem?_getD, Nat.add_comm], q6, q7, q8, q9⟩
      · cases h
    · cases h
  | [], _ :: _, _, _, _, _, _, _, _, h, _, _, _, _ | .val _ _ :: _, [], _, _, _, _, _, _, _, h, _, _, _, _ | .io _ _ :: _, [], _, _, _, _, _, _, _, h, _, _, _, _ | .rd _ :: _, [], _, _, _, _, _, _, _, h, _, _, _, _
  | .vx _ _ :: _, [], _, _, _, _, _, _, _, h, _, _, _, _ => by simp [gather] at h
  | .val _ _ :: _, .no :: _, _, _, _, _, _, _, _, h, _, _, _, _ | .val _ _ :: _, .box _ _ :: _, _, _, _, _, _, _, _, h, _, _, _, _ | .val _ _ :: _, .ptr .. :: _, _, _, _, _, _, _, _, h, _, _, _, _ | .val _ _ :: _, .ept .. :: _, _, _, _, _, _, _, _, h, _, _, _, _
  | .val _ _ :: _, .rdp .. :: _, _, _, _, _, _, _, _, h, _, _, _, _ | .val _ _ :: _, .tup _ :: _, _, _, _, _, _, _, _, h, _, _, _, _ | .val _ _ :: _, .g .. :: _, _, _, _, _, _, _, _, h, _, _, _, _ => by simp [gather] at h
  | .vx _ _ :: _, .no :: _, _, _, _, _, _, _, _, h, _, _, _, _ | .vx _ _ :: _, .box _ _ :: _, _, _, _, _, _, _, _, h, _, _, _, _ | .vx _ _ :: _, .ptr .. :: _, _, _, _, _, _, _, _, h, _, _, _, _ | .vx _ _ :: _, .ept .. :: _, _, _, _, _, _, _, _, h, _, _, _, _
  | .vx _ _ :: _, .rdp .. :: _, _, _, _, _, _, _, _, h, _, _, _, _ | .vx _ _ :: _, .tup _ :: _, _, _, _, _, _, _, _, h, _, _, _, _ | .vx _ _ :: _, .g .. :: _, _, _, _, _, _, _, _, h, _, _, _, _ => by simp [gather] at h

/-- The boxes handed in are each another. -/
theorem ios_pairwise {rhoT : List (Nat × Nat)} {hs' : List Nat} {R0 : Rd} : ∀ {ps : List PK} {as : List SV} {te : Nat} {r0 : List (Nat × Nat)} {xs : TupD (ps.map PK.ty)} {rho bs : List (Nat × Nat)},
    gather R0 ps as te r0 = some (xs, rho, bs) → (∀ c k, (c, k) ∈ rho → rhoT.lookup c = some k) → ∀ (R : TupD (ioTys ps)) (k' : Nat),
    ((iosOf hs' ps R bs k').map (·.1)).Pairwise (· ≠ ·) ∧ ∀ t ∈ (iosOf hs' ps R bs k').map (·.1), ∃ u, te ≤ u ∧ rhoT.lookup t = some u
  | [], [], te, r0, xs, rho, bs, h, hr, R, k' => by
    simp only [gather, Option.some.injEq, Prod.mk.injEq] at h
    obtain ⟨_, rfl, rfl⟩ := h
    simp [iosOf]
  | .val τ p :: ps, .d v :: as, te, r0, xs, rho, bs, h, hr, R, k' => by
    simp only [gather] at h
    split at h
    · rename_i x xs' rho' bs' hx hg
      split at h
      · simp only [Option.some.injEq, Prod.mk.injEq] at h
        obtain ⟨_, rfl, rfl⟩ := h
        obtain ⟨h1, h2⟩ := ios_pairwise hg (fun c k h => hr c k (List.mem_append_right _ h)) R k'
        exact ⟨h1, fun t ht => by obtain ⟨u, q1, q2⟩ := h2 t ht; exact ⟨u, Nat.le_trans (ptNext_ge p te) q1, q2⟩⟩
      · cases h
    · cases h
  | .io τ p :: ps, sv :: as, te, r0, xs, rho, bs, h, hr, R, k' => by
    simp only [gather] at h
    split at h
    · rename_i t0 s0 v hb
      split at h
      · rename_i x xs' rho' bs' hx hg
        split at h
        · simp only [Option.some.injEq, Prod.mk.injEq] at h
          obtain ⟨_, rfl, rfl⟩ := h
          have n1 := ptNext_ge p (te + 1)
          have hpn : (ptShape p (te + 1) []).2 = ptNext p (te + 1) := rfl
          obtain ⟨h1, h2⟩ := ios_pairwise hg (fun c k h => hr c k (by simp [h])) R.2 (ptShape p k' hs').2
          have h0 := hr t0 te (by simp)
          simp only [iosOf, List.map_cons, List.pairwise_cons, List.mem_cons]
          refine ⟨⟨fun t ht e => ?_, h1⟩, fun t ht => ?_⟩
          · obtain ⟨u, q1, q2⟩ := h2 t ht
            rw [← e, h0] at q2
            simp only [Option.some.injEq] at q2
            omega
          · rcases ht with rfl | ht
            · exact ⟨te, Nat.le_refl _, h0⟩
            · obtain ⟨u, q1, q2⟩ := h2 t ht
              exact ⟨u, by omega, q2⟩
        · cases h
      · cases h
    · cases h
  | .rd τ :: ps, sv :: as, te, r0, xs, rho, bs, h, hr, R, k' => by
    simp only [gather] at h
    split at h
    · split at h
      · rename_i x xs' rho' bs' hx hg
        split at h
        · simp only [Option.some.injEq, Prod.mk.injEq] at h
          obtain ⟨_, rfl, rfl⟩ := h
          exact ios_pairwise hg (fun c k h => hr c k (List.mem_append_right _ h)) R k'
        · cases h
      · cases h
    · cases h
  | .vx e l :: ps, .d v :: as, te, r0, xs, rho, bs, h, hr, R, k' => by
    simp only [gather] at h
    split at h
    · rename_i x xs' rho' bs' hx hg
      split at h
      · simp only [Option.some.injEq, Prod.mk.injEq] at h
        obtain ⟨_, rfl, rfl⟩ := h
        exact ios_pairwise hg (fun c k h => hr c k (List.mem_append_right _ h)) R k'
      · cases h
    · cases h
  | [], _ :: _, _, _, _, _, _, h, _, _, _ | .val _ _ :: _, [], _, _, _, _, _, h, _, _, _ | .io _ _ :: _, [], _, _, _, _, _, h, _, _, _ | .rd _ :: _, [], _, _, _, _, _, h, _, _, _ | .vx _ _ :: _, [], _, _, _, _, _, h, _, _, _ => by simp [gather] at h
  | .val _ _ :: _, .no :: _, _, _, _, _, _, h, _, _, _ | .val _ _ :: _, .box _ _ :: _, _, _, _, _, _, h, _, _, _ | .val _ _ :: _, .ptr .. :: _, _, _, _, _, _, h, _, _, _ | .val _ _ :: _, .ept .. :: _, _, _, _, _, _, h, _, _, _
  | .val _ _ :: _, .rdp .. :: _, _, _, _, _, _, h, _, _, _ | .val _ _ :: _, .tup _ :: _, _, _, _, _, _, h, _, _, _ | .val _ _ :: _, .g .. :: _, _, _, _, _, _, h, _, _, _ => by simp [gather] at h
  | .vx _ _ :: _, .no :: _, _, _, _, _, _, h, _, _, _ | .vx _ _ :: _, .box _ _ :: _, _, _, _, _, _, h, _, _, _ | .vx _ _ :: _, .ptr .. :: _, _, _, _, _, _, h, _, _, _ | .vx _ _ :: _, .ept .. :: _, _, _, _, _, _, h, _, _, _
  | .vx _ _ :: _, .rdp .. :: _, _, _, _, _, _, h, _, _, _ | .vx _ _ :: _, .tup _ :: _, _, _, _, _, _, h, _, _, _ | .vx _ _ :: _, .g .. :: _, _, _, _, _, _, h, _, _, _ => by simp [gather] at h

/-- The boxes handed in, one by one. -/
theorem gather_idx (hI : Inv w0 c0 U E a w G) {hs' : List Nat} : ∀ {ps : List PK} {as : List SV} {vals : List Value} {te i0 : Nat} {r0 : List (Nat × Nat)} {xs : TupD (ps.map PK.ty)} {rho bs : List (Nat × Nat)},
    gather E.rd ps as te r0 = some (xs, rho, bs) → (∀ i, SOk w G (as.getD i .no) (vals.getD i undef)) → ∀ (R : TupD (ioTys ps)) (k : Nat) (j : Nat) (t s : Nat), bs[j]? = some (t, s) →
    ∃ te' i v0 v2 τ, (entBox ps i0 te)[j]? = some (te', i0 + i) ∧ (ioTys ps)[j]? = some τ ∧ (iosOf hs' ps R bs k)[j]? = some (t, s, v2) ∧ v2.τ = τ ∧ E.rd.box t = some (s, v0) ∧ v0.τ = τ ∧ vals.getD i undef = G.hdr t
  | [], [], vals, te, i0, r0, xs, rho, bs, h, hs, R, k, j, t, s, hj => by
    simp only [gather, Option.some.injEq, Prod.mk.injEq] at h
    obtain ⟨_, rfl, rfl⟩ := h
    simp at hj
  | .val τ p :: ps, .d v :: as, vals, te, i0, r0, xs, rho, bs, h, hs, R, k, j, t, s, hj => by
    simp only [gather] at h
    split at h
    · rename_i x xs' rho' bs' hx hg
      split at h
      · simp only [Option.some.injEq, Prod.mk.injEq] at h
        obtain ⟨_, rfl, rfl⟩ := h
        obtain ⟨te', i, v0, v2, τ', q1, q2, q3, q4, q5, q6, q7⟩ := gather_idx hI (hs' := hs') (i0 := i0 + 1) (vals := vals.drop 1) hg (fun i => by have := hs (i + 1); simpa [List.getD_eq_getElem?_getD, Nat.add_comm] using this) R k j t s hj
        exact ⟨te', i + 1, v0, v2, τ', by simp only [entBox]; rw [show i0 + (i + 1) = i0 + 1 + i by omega]; exact q1, q2, q3, q4, q5, q6, by rw [← q7]; simp [List.getD_eq_getElem?_getD, Nat.add_comm]⟩
      · cases h
    · cases h
  | .io τ p :: ps, sv :: as, vals, te, i0, r0, xs, rho, bs, h, hs, R, k, j, t, s, hj => by
    simp only [gather] at h
    split at h
    · rename_i t0 s0 v hb
      split at h
      · rename_i x xs' rho' bs' hx hg
        split at h
        · simp only [Option.some.injEq, Prod.mk.injEq] at h
          obtain ⟨_, rfl, rfl⟩ := h
          have hs0 := hs 0
          simp only [List.getD_cons_zero] at hs0
          obtain ⟨hslot, bk, c, el, b1, b2, _⟩ := boxOf_ok hI hb hs0
          have hbox : E.rd.box t0 = some (s0, v) := by
            unfold boxOf at hb
            split at hb
            · rw [Option.map_eq_some_iff] at hb
              obtain ⟨r, hr, hb⟩ := hb
              simp only [Prod.mk.injEq] at hb
              obtain ⟨rfl, rfl, rfl⟩ := hb
              exact hr
            · cases hb
          have hτ : v.τ = τ := by
            have e := castV_ok hx
            rw [e]
          cases j with
          | zero =>
            simp only [List.getElem?_cons_zero, Option.some.injEq, Prod.mk.injEq] at hj
            obtain ⟨rfl, rfl⟩ := hj
            exact ⟨te, 0, v, ⟨τ, R.1, (ptShape p k hs').1⟩, τ, by simp [entBox], by simp [ioTys], by simp only [iosOf, List.getElem?_cons_zero], rfl, hbox, hτ, b2.symm⟩
          | succ j =>
            simp only [List.getElem?_cons_succ] at hj
            obtain ⟨te', i, v0, v2, τ', q1, q2, q3, q4, q5, q6, q7⟩ := gather_idx hI (hs' := hs') (i0 := i0 + 1) (vals := vals.drop 1) hg (fun i => by have := hs (i + 1); simpa [List.getD_eq_getElem?_getD, Nat.add_comm] using this) R.2 (ptShape p k hs').2 j t s hj
            exact ⟨te', i + 1, v0, v2, τ', by simp only [entBox, List.getElem?_cons_succ]; rw [show i0 + (i + 1) = i0 + 1 + i by omega]; exact q1, by simp only [ioTys, List.getElem?_cons_succ]; exact q2,
              by simp only [iosOf, List.getElem?_cons_succ]; exact q3, q4, q5, q6, by rw [← q7]; simp [List.getD_eq_getElem?_getD, Nat.add_comm]⟩
        · cases h
      · cases h
    · cases h
  | .rd τ :: ps, sv :: as, vals, te, i0, r0, xs, rho, bs, h, hs, R, k, j, t, s, hj => by
    simp only [gather] at h
    split at h
    · split at h
      · rename_i x xs' rho' bs' hx hg
        split at h
        · simp only [Option.some.injEq, Prod.mk.injEq] at h
          obtain ⟨_, rfl, rfl⟩ := h
          obtain ⟨te', i, v0, v2, τ', q1, q2, q3, q4, q5, q6, q7⟩ := gather_idx hI (hs' := hs') (i0 := i0 + 1) (vals := vals.drop 1) hg (fun i => by have := hs (i + 1); simpa [List.getD_eq_getElem?_getD, Nat.add_comm] using this) R k j t s hj
          exact ⟨te', i + 1, v0, v2, τ', by simp only [entBox]; rw [show i0 + (i + 1) = i0 + 1 + i by omega]; exact q1, q2, q3, q4, q5, q6, by rw [← q7]; simp [List.getD_eq_getElem?_getD, Nat.add_comm]⟩
        · cases h
      · cases h
    · cases h
  | .vx e l :: ps, .d v :: as, vals, te, i0, r0, xs, rho, bs, h, hs, R, k, j, t, s, hj => by
    simp only [gather] at h
    split at h
    · rename_i x xs' rho' bs' hx hg
      split at h
      · simp only [Option.some.injEq, Prod.mk.injEq] at h
        obtain ⟨_, rfl, rfl⟩ := h
        obtain ⟨te', i, v0, v2, τ', q1, q2, q3, q4, q5, q6, q7⟩ := gather_idx hI (hs' := hs') (i0 := i0 + 1) (vals := vals.drop 1) hg (fun i => by have := hs (i + 1); simpa [List.getD_eq_getElem?_getD, Nat.add_comm] using this) R k j t s hj
        exact ⟨te', i + 1, v0, v2, τ', by simp only [entBox]; rw [show i0 + (i + 1) = i0 + 1 + i by omega]; exact q1, q2, q3, q4, q5, q6, by rw [← q7]; simp [List.getD_eq_getElem?_getD, Nat.add_comm]⟩
      · cases h
    · cases h
  | [], _ :: _, _, _, _, _, _, _, _, h, _, _, _, _, _, _, _ | .val _ _ :: _, [], _, _, _, _, _, _, _, h, _, _, _, _, _, _, _ | .io _ _ :: _, [], _, _, _, _, _, _, _, h, _, _, _, _, _, _, _ | .rd _ :: _, [], _, _, _, _, _, _, _, h, _, _, _, _, _, _, _
  | .vx _ _ :: _, [], _, _, _, _, _, _, _, h, _, _, _, _, _, _, _ => by simp [gather] at h
  | .val _ _ :: _, .no :: _, _, _, _, _, _, _, _, h, _, _, _, _, _, _, _ | .val _ _ :: _, .box _ _ :: _, _, _, _, _, _, _, _, h, _, _, _, _, _, _, _ | .val _ _ :: _, .ptr .. :: _, _, _, _, _, _, _, _, h, _, _, _, _, _, _, _
  | .val _ _ :: _, .ept .. :: _, _, _, _, _, _, _, _, h, _, _, _, _, _, _, _ | .val _ _ :: _, .rdp .. :: _, _, _, _, _, _, _, _, h, _, _, _, _, _, _, _ | .val _ _ :: _, .tup _ :: _, _, _, _, _, _, _, _, h, _, _, _, _, _, _, _
  | .val _ _ :: _, .g .. :: _, _, _, _, _, _, _, _, h, _, _, _, _, _, _, _ | .vx _ _ :: _, .no :: _, _, _, _, _, _, _, _, h, _, _, _, _, _, _, _ | .vx _ _ :: _, .box _ _ :: _, _, _, _, _, _, _, _, h, _, _, _, _, _, _, _
  | .vx _ _ :: _, .ptr .. :: _, _, _, _, _, _, _, _, h, _, _, _, _, _, _, _ | .vx _ _ :: _, .ept .. :: _, _, _, _, _, _, _, _, h, _, _, _, _, _, _, _ | .vx _ _ :: _, .rdp .. :: _, _, _, _, _, _, _, _, h, _, _, _, _, _, _, _
  | .vx _ _ :: _, .tup _ :: _, _, _, _, _, _, _, _, h, _, _, _, _, _, _, _ | .vx _ _ :: _, .g .. :: _, _, _, _, _, _, _, _, h, _, _, _, _, _, _, _ => by simp [gather] at h

/-- The cell of a row's head. -/
theorem rowTok_ok : ∀ {τ : Ty} {x : τ.den} {sh : Sh} {cs : List Value} {p : List Bool} {t : Nat}, VOk w G τ x sh cs → rowTok sh p = some t → cs[τ.off p]? = some (G.hdr t) ∧ 3 ≤ t ∧ t ∈ sh.cols
  | .sl e, l, .sl (.row u hs nd), cs, [], t, h, hr => by
    simp only [rowTok, Option.some.injEq] at hr
    subst hr
    obtain ⟨v, rfl, h3, hh, _⟩ := h
    exact ⟨by simp [Ty.off, hh], h3, by simp [Sh.cols, M.cols]⟩
  | .pair a b, x, .pair s1 s2, cs, false :: p, t, h, hr => by
    obtain ⟨c1, c2, rfl, h1, h2⟩ := h
    simp only [rowTok] at hr
    obtain ⟨q1, q2, q3⟩ := rowTok_ok h1 hr
    refine ⟨?_, q2, by simp [Sh.cols, q3]⟩
    simp only [Ty.off]
    rw [List.getElem?_append_left]
    · exact q1
    · rcases Nat.lt_or_ge (a.off p) c1.length with h | h
      · exact h
      · rw [List.getElem?_eq_none h] at q1; cases q1
  | .pair a b, x, .pair s1 s2, cs, true :: p, t, h, hr => by
    obtain ⟨c1, c2, rfl, h1, h2⟩ := h
    simp only [rowTok] at hr
    obtain ⟨q1, q2, q3⟩ := rowTok_ok h2 hr
    refine ⟨?_, q2, by simp [Sh.cols, q3]⟩
    have hl : c1.length = a.sz := VOk.len h1
    simp only [Ty.off]
    rw [List.getElem?_append_right (by omega), show a.sz + b.off p - c1.length = b.off p by omega]
    exact q1
  | .int _, _, .sl _, _, _, _, h, _ | .bool, _, .sl _, _, _, _, h, _ | .str, _, .sl _, _, _, _, h, _ | .pair _ _, _, .sl _, _, _, _, h, _ | .int _, _, .pair _ _, _, _, _, h, _ | .bool, _, .pair _ _, _, _, _, h, _
  | .str, _, .pair _ _, _, _, _, h, _ | .sl _, _, .pair _ _, _, _, _, h, _ => h.elim
  | _, _, .leaf, _, _, _, _, h => by simp [rowTok] at h
  | _, _, .sl (.sha _), _, _, _, _, h | _, _, .sl .dead, _, _, _, _, h => by simp [rowTok] at h
  | _, _, .sl (.row _ _ _), _, _ :: _, _, _, h => by simp [rowTok] at h
  | _, _, .pair _ _, _, [], _, _, h => by simp [rowTok] at h

end
end Vg

/- VG, part 26: a call, as its caller sees it. -/
namespace Vg
open Go

theorem tupOf_get : ∀ {L : List SV} {vs : List TV}, tupOf L = some vs → L.length = vs.length ∧ ∀ i v, vs[i]? = some v → L.getD i .no = .d v
  | [], vs, h => by simp only [tupOf, Option.some.injEq] at h; subst h; simp
  | .d v :: L, vs, h => by
    simp only [tupOf, Option.map_eq_some_iff] at h
    obtain ⟨vs', h1, rfl⟩ := h
    obtain ⟨g1, g2⟩ := tupOf_get h1
    refine ⟨by simp [g1], fun i v' hi => ?_⟩
    cases i with
    | zero => simp at hi ⊢; exact hi
    | succ i => simp at hi; simpa using g2 i v' hi
  | .no :: _, _, h | .box _ _ :: _, _, h | .ptr .. :: _, _, h | .ept .. :: _, _, h | .rdp .. :: _, _, h | .tup _ :: _, _, h | .g .. :: _, _, h => by simp [tupOf] at h

theorem tupOf_mem : ∀ {L : List SV} {vs : List TV}, tupOf L = some vs → ∀ v ∈ vs, SV.d v ∈ L
  | [], vs, h, v, hv => by simp only [tupOf, Option.some.injEq] at h; subst h; simp at hv
  | .d u :: L, vs, h, v, hv => by
    simp only [tupOf, Option.map_eq_some_iff] at h
    obtain ⟨vs', h1, rfl⟩ := h
    simp only [List.mem_cons] at hv
    rcases hv with rfl | hv
    · simp
    · exact List.mem_cons_of_mem _ (tupOf_mem h1 v hv)
  | .no :: _, _, h, _, _ | .box _ _ :: _, _, h, _, _ | .ptr .. :: _, _, h, _, _ | .ept .. :: _, _, h, _, _ | .rdp .. :: _, _, h, _, _ | .tup _ :: _, _, h, _, _ | .g .. :: _, _, h, _, _ => by simp [tupOf] at h

section
variable {P : Program} {C : Cx} {w0 : World} {c0 : C0} {U : Nat → Prop} {E : Env} {a : Act} {w : World} {G : Gh} {ops : List Oper} {g : Option (Nat × Bool)}

theorem resSV_eq (L : List SV) : (∃ sv, L = [sv] ∧ resSV L = sv) ∨ (∀ sv, L ≠ [sv]) ∧ ((∃ vs, tupOf L = some vs ∧ resSV L = .tup vs) ∨ resSV L = .no) := by
  match L with
  | [sv] => exact .inl ⟨sv, rfl, rfl⟩
  | [] => exact .inr ⟨by simp, .inl ⟨[], rfl, rfl⟩⟩
  | x :: y :: l =>
    refine .inr ⟨by simp, ?_⟩
    cases h : tupOf (x :: y :: l) with
    | none => right; simp [resSV, h]
    | some vs => left; exact ⟨vs, rfl, by simp [resSV, h]⟩

theorem resVal_eq {vs : List Value} (h : ∀ v, vs ≠ [v]) : resVal vs = .tuple vs.toArray := by
  match vs, h with
  | [], _ => rfl
  | [v], h => exact absurd rfl (h v)
  | _ :: _ :: _, _ => rfl

theorem resSV_ok {L : List SV} {vs : List Value} (hl : vs.length = L.length) (h : ∀ i, SOk w G (L.getD i .no) (vs.getD i undef)) : SOk w G (resSV L) (resVal vs) := by
  rcases resSV_eq L with ⟨sv, rfl, e⟩ | ⟨hn, ⟨ts, h1, e⟩ | e⟩
  · rw [e]
    have := h 0
    match vs, hl with
    | [v], _ => simpa [resVal] using this
  · rw [e, resVal_eq (fun v hv => by
      subst hv
      simp only [List.length_singleton] at hl
      match L, hl with
      | [sv], _ => exact hn sv rfl)]
    obtain ⟨g1, g2⟩ := tupOf_get h1
    refine ⟨vs, rfl, by omega, fun i v hi => ?_⟩
    have hs := h i
    rw [g2 i v hi] at hs
    obtain ⟨cs, k1, k2⟩ := hs
    have hlt : i < vs.length := by
      have := (List.getElem?_eq_some_iff.1 hi).1
      omega
    rw [List.getD_eq_getElem?_getD, List.getElem?_eq_getElem hlt] at k1
    exact ⟨_, cs, List.getElem?_eq_getElem hlt, k1, k2⟩
  · rw [e]; trivial

theorem resSV_ment {L : List SV} (h : ∀ sv ∈ L, Ment U G sv) : Ment U G (resSV L) := by
  rcases resSV_eq L with ⟨sv, rfl, e⟩ | ⟨_, ⟨ts, h1, e⟩ | e⟩
  · rw [e]; exact h sv (by simp)
  · rw [e]
    refine ⟨fun c hc => ?_, by simp [SV.bt], by simp [SV.rt]⟩
    simp only [SV.sc, List.mem_flatMap] at hc
    obtain ⟨v, hv, hc⟩ := hc
    exact (h _ (tupOf_mem h1 v hv)).1 c hc
  · rw [e]; simp [Ment, SV.sc, SV.bt, SV.rt]

/-- The caller's colours behind a call. -/
def retG (G G1 G' : Gh) (n k0 tk : Nat) (bx : List Nat) : Gh :=
  ⟨fun b => if 3 ≤ G'.col b then (if k0 ≤ G'.col b ∧ G'.col b < k0 + 32 then tk + (G'.col b - k0) else if b < n then G.col b else 0)
      else if G'.col b = 2 then 2 else if G'.col b = 1 then G.col b else if b < n ∧ G1.col b = 0 then G.col b else 0,
    fun u => if tk ≤ u ∧ u < tk + 32 then G'.hdr (k0 + (u - tk)) else G.hdr u,
    fun u => if tk ≤ u ∧ u < tk + 32 then bx.contains u else G.bx u⟩

theorem retG_cases (G G1 G' : Gh) (n k0 tk : Nat) (bx : List Nat) (b : Nat) :
    (k0 ≤ G'.col b ∧ G'.col b < k0 + 32 ∧ 3 ≤ G'.col b ∧ (retG G G1 G' n k0 tk bx).col b = tk + (G'.col b - k0)) ∨
    (3 ≤ G'.col b ∧ b < n ∧ (retG G G1 G' n k0 tk bx).col b = G.col b ∧ ¬ (k0 ≤ G'.col b ∧ G'.col b < k0 + 32)) ∨
    (3 ≤ G'.col b ∧ (retG G G1 G' n k0 tk bx).col b = 0) ∨ (G'.col b = 2 ∧ (retG G G1 G' n k0 tk bx).col b = 2) ∨ (G'.col b = 1 ∧ (retG G G1 G' n k0 tk bx).col b = G.col b) ∨
    (G'.col b = 0 ∧ b < n ∧ G1.col b = 0 ∧ (retG G G1 G' n k0 tk bx).col b = G.col b) ∨ (G'.col b = 0 ∧ (retG G G1 G' n k0 tk bx).col b = 0 ∧ ¬ (b < n ∧ G1.col b = 0)) := by
  simp only [retG]
  by_cases h3 : 3 ≤ G'.col b
  · simp only [h3, if_true, true_and]
    by_cases h : k0 ≤ G'.col b ∧ G'.col b < k0 + 32
    · simp only [h, and_self, if_true]; left; trivial
    · simp only [h, if_false]
      by_cases hb : b < n
      · right; left; simp [hb]
      · right; right; left; simp [hb]
  · simp only [h3, if_false, false_and, and_false, false_or]
    by_cases h2 : G'.col b = 2
    · simp [h2]
    · by_cases h1 : G'.col b = 1
      · simp [h1]
      · have h0 : G'.col b = 0 := by omega
        by_cases hb : b < n ∧ G1.col b = 0
        · simp [h0, hb]
        · simp [h0, hb]

theorem ret_ok (hI : Inv w0 c0 U E a w G) {con : Con} {as : List SV} {vals : List Value} {xs : TupD (con.ps.map PK.ty)} {rho bs : List (Nat × Nat)}
    (hcon : conOk con.ps con.rs = true) (hg : gather E.rd con.ps as 3 [] = some (xs, rho, bs)) (hs : ∀ i, SOk w G (as.getD i .no) (vals.getD i undef) ∧ Ment U G (as.getD i .no)) (hr : rhoOk rho = true)
    {G1 : Gh} (hG1 : ∀ b, G1.col b = (rho.lookup (G.col b)).getD 0) {y : TupD (con.rs.map RK.ty ++ ioTys con.ps)} {mv : Value} {w' : World} {G' : Gh} {vs : List Value} {nt : Nat} (hp : Post con w G1 vals y mv w' G' vs nt)
    {tk : Nat} (h3 : 3 ≤ tk) (hU : ∀ u, tk ≤ u → u < tk + 32 → ¬ U u) (h32 : ioNt con.ps (resNt con.rs 0) ≤ 32) {hs' tks : List Nat}
    (hhs : hs' = (2 :: (rho.filter (·.2 = 1)).map (·.1)).eraseDups) (htks : tks = ((rho.filter (3 ≤ ·.2)).map (·.1)).filter fun c => !bs.any (·.1 = c)) :
    ∃ G2, Inv w0 c0 (fun u => U u ∨ (tk ≤ u ∧ u < tk + 32)) { E.kill tks with s := putBoxes (iosOf hs' con.ps (scatter con.rs (ioTys con.ps) y tk hs').2.1 bs (scatter con.rs (ioTys con.ps) y tk hs').2.2) (E.kill tks).s } a w' G2 ∧
      SOk w' G2 (resSV (scatter con.rs (ioTys con.ps) y tk hs').1) mv ∧ Ment (fun u => U u ∨ (tk ≤ u ∧ u < tk + 32)) G2 (resSV (scatter con.rs (ioTys con.ps) y tk hs').1) ∧
      (∀ t u, resSV (scatter con.rs (ioTys con.ps) y tk hs').1 = .box t u → ∀ s u',
        (putBoxes (iosOf hs' con.ps (scatter con.rs (ioTys con.ps) y tk hs').2.1 bs (scatter con.rs (ioTys con.ps) y tk hs').2.2) (E.kill tks).s).getD s .no ≠ .box t u') ∧
      (∀ u u', (u, u') ∈ rpOf E.rd bs (iosOf hs' con.ps (scatter con.rs (ioTys con.ps) y tk hs').2.1 bs (scatter con.rs (ioTys con.ps) y tk hs').2.2) con.kp →
        G2.hdr u' = G.hdr u ∧ 3 ≤ u' ∧ Good (fun u => U u ∨ (tk ≤ u ∧ u < tk + 32)) G2 u') ∧
      (∀ t s v, (t, s, v) ∈ iosOf hs' con.ps (scatter con.rs (ioTys con.ps) y tk hs').2.1 bs (scatter con.rs (ioTys con.ps) y tk hs').2.2 → ∃ v0, E.s.getD s .no = .box t v0) := by
  obtain ⟨hl, _, hin0⟩ := gather_ok hI hg hs (Nat.le_refl _)
  have hin : ∀ c k, (c, k) ∈ rho → RhoIn U G con.ps 3 bs c k := fun c k h => (hin0 c k h).resolve_right (by simp)
  have hk0 := entNt_ge con.ps 3
  generalize hk : entNt con.ps 3 = k0 at hk0
  have hin' : ∀ c k, (c, k) ∈ rho → (k = 1 ∧ 0 < c ∧ U c ∧ (G.bx c = false ∨ hasRd con.ps = true)) ∨ (3 ≤ k ∧ k < k0 ∧ 3 ≤ c ∧ ((Good U G c ∧ k ∉ boxToks con.ps 3) ∨ (k ∈ boxToks con.ps 3 ∧ U c ∧ G.bx c = true ∧ ∃ s, (c, s) ∈ bs))) := by
    intro c k h
    have := hin c k h
    rw [← hk]; exact this
  generalize hG2 : retG G G1 G' w.heap.size k0 tk (resBox con.rs tk) = G2
  have hcs := fun b => retG_cases G G1 G' w.heap.size k0 tk (resBox con.rs tk) b
  rw [hG2] at hcs
  -- the tokens of what comes back
  have hsc := scatter_ok (w' := w') (G' := G') (G2 := G2) (k0 := k0) (n := k0 + 32) h3 (rs := con.rs) (rest := ioTys con.ps) (y := y) (k := k0) (Nat.le_refl _) hs'
  simp only [Nat.sub_self, Nat.add_zero] at hsc
  obtain ⟨sc1, sc2, sc3, sc4, sc5, sc6⟩ := hsc
  have hnt1 : resNt con.rs k0 = resNt con.rs 0 + k0 := by have := resNt_shift con.rs 0 k0; rwa [Nat.zero_add] at this
  have hnt2 : ioNt con.ps (resNt con.rs k0) = ioNt con.ps (resNt con.rs 0) + k0 := by rw [hnt1]; exact ioNt_shift _ _ _
  have hge1 := ioNt_ge con.ps (resNt con.rs k0)
  have hge2 := resNt_ge con.rs k0
  have hnot : ∀ u, U u → ¬ (tk ≤ u ∧ u < tk + 32) := fun u hu h => hU u h.1 h.2 hu
  have hG2h : ∀ u, U u → G2.hdr u = G.hdr u := fun u hu => by rw [← hG2]; exact if_neg (hnot u hu)
  have hG2b : ∀ u, U u → G2.bx u = G.bx u := fun u hu => by rw [← hG2]; exact if_neg (hnot u hu)
  -- colours at the door
  have hcol1 : ∀ b, (G1.col b = 0) ∨ (G1.col b = 1 ∧ (G.col b, 1) ∈ rho) ∨ (3 ≤ G1.col b ∧ G1.col b < k0 ∧ (G.col b, G1.col b) ∈ rho ∧ 3 ≤ G.col b) := by
    intro b
    rw [hG1 b]
    cases hq : rho.lookup (G.col b) with
    | none => left; simp
    | some k =>
      simp only [Option.getD_some]
      have hm := lookup_mem hq
      rcases hin' _ _ hm with ⟨rfl, _⟩ | ⟨q1, q2, q3, _⟩
      · exact .inr (.inl ⟨rfl, hm⟩)
      · exact .inr (.inr ⟨q1, q2, hm, q3⟩)
  have hRec : Recol G' G2 k0 (k0 + 32) tk hs' := by
    refine ⟨fun u hu hu2 => ⟨?_, fun b hb => ?_⟩, fun b hb => ?_, fun e => ?_⟩
    rotate_right
    · have h2 : 2 ∈ hs' := by rw [hhs, List.mem_eraseDups]; simp
      rw [e] at h2; simp at h2
    · rw [← hG2]
      simp only [retG]
      rw [if_pos (by omega)]
      congr 1; omega
    · rcases hcs b with ⟨_, _, _, h⟩ | ⟨q1, q2, q3, q4⟩ | ⟨q1, q2⟩ | h | h | h | h
      · rw [h, hb]
      · omega
      · rw [← hG2]
        simp only [retG]
        rw [if_pos q1, if_pos (by omega), hb]
      · omega
      · omega
      · omega
      · omega
    · rw [hhs, List.mem_eraseDups]
      simp only [List.mem_cons, List.not_mem_nil, or_false] at hb
      rcases hb with hb | hb
      · have : G2.col b = 2 := by
          rcases hcs b with h | h | h | h | h | h | h <;> omega
        simp [this]
      · have h1 := (hp.one b hb).2
        have : G2.col b = G.col b := by
          rcases hcs b with h | h | h | h | h | h | h <;> omega
        rw [this]
        rcases hcol1 b with h | ⟨_, h⟩ | h
        · omega
        · refine List.mem_cons_of_mem _ (List.mem_map.2 ⟨(G.col b, 1), ?_, rfl⟩)
          simp [h]
        · omega
  -- what was taken
  have hts : ∀ c, c ∈ tks → Good U G c ∧ 3 ≤ c ∧ ∀ s, (c, s) ∉ bs := by
    intro c hc
    rw [htks] at hc
    simp only [List.mem_filter, List.mem_map, Bool.not_eq_true', List.any_eq_false, decide_eq_true_eq] at hc
    obtain ⟨⟨⟨c', k⟩, ⟨h1, h2⟩, rfl⟩, h4⟩ := hc
    have h4' : ∀ s, (c', s) ∉ bs := fun s h => h4 (c', s) h rfl
    rcases hin' _ _ h1 with ⟨rfl, _⟩ | ⟨_, _, h5, ⟨h6, _⟩ | ⟨_, _, _, s, h6⟩⟩
    · simp at h2
    · exact ⟨h6, h5, h4'⟩
    · exact absurd h6 (h4' s)
  have htaken : ∀ b, 3 ≤ G1.col b → G.col b ∈ tks ∨ ∃ s, (G.col b, s) ∈ bs := by
    intro b hb
    rcases hcol1 b with h | ⟨h, _⟩ | ⟨_, _, h, _⟩
    · omega
    · omega
    · by_cases hbs : ∃ s, (G.col b, s) ∈ bs
      · exact .inr hbs
      · left
        rw [htks]
        simp only [List.mem_filter, List.mem_map, Bool.not_eq_true', List.any_eq_false, decide_eq_true_eq]
        refine ⟨⟨(G.col b, G1.col b), ⟨h, hb⟩, rfl⟩, fun p hp e => hbs ⟨p.2, ?_⟩⟩
        rw [← e]; exact hp
  obtain ⟨rel1, rel2⟩ := ios_rel hI (k0 := k0) (tk := tk) (hs' := hs') (i0 := 0) hg (fun i => (hs i).1) (scatter con.rs (ioTys con.ps) y k0 [2, 1]).2.1 (resNt con.rs k0) hge2
  have hpw := (ios_pairwise (hs' := hs') (rhoT := rho) hg (fun c k h => rhoOk_spec hr h) (scatter con.rs (ioTys con.ps) y k0 [2, 1]).2.1 (tk + (resNt con.rs k0 - k0))).1
  rw [sc1, sc2]
  generalize hio : iosOf hs' con.ps (scatter con.rs (ioTys con.ps) y k0 [2, 1]).2.1 bs (tk + (resNt con.rs k0 - k0)) = IO at rel1 rel2 hpw ⊢
  have hbs : ∀ t s, (t, s) ∈ bs → ∃ v0, E.s.getD s .no = .box t v0 := by
    intro t s h
    obtain ⟨v2, h2⟩ := rel2 t s h
    obtain ⟨te', i, v1, p, k1, v0, _, _, _, q4, _⟩ := rel1 t s v2 h2
    exact ⟨v0, q4⟩
  -- the surroundings without what was taken
  have hK := hI.kill tks
  have hD := hK.dropAll IO
  have hDget : ∀ s, (dropBoxes IO (E.kill tks).s).getD s .no = (E.kill tks).s.getD s .no ∨ (dropBoxes IO (E.kill tks).s).getD s .no = .no := by
    intro s
    by_cases h : ∃ t v, (t, s, v) ∈ IO
    · exact .inr (dropBoxes_in IO _ s h).1
    · exact .inl (dropBoxes_get IO _ s (fun t v hh => h ⟨t, v, hh⟩))
  have hhc : ∀ s, ∀ c ∈ ((dropBoxes IO (E.kill tks).s).getD s .no).hc, c ∉ tks ++ bs.map (·.1) := by
    intro s c hc hin2
    have hsn : (dropBoxes IO (E.kill tks).s).getD s .no = (E.kill tks).s.getD s .no := by
      rcases hDget s with h | h
      · exact h
      · rw [h] at hc; simp [SV.hc, SV.sc] at hc
    have hnb : ∀ t v, (t, s, v) ∉ IO := by
      intro t v h
      have := (dropBoxes_in IO (E.kill tks).s s ⟨t, v, h⟩).1
      rw [this] at hc; simp [SV.hc, SV.sc] at hc
    rw [hsn] at hc
    have hsc' : c ∈ ((E.kill tks).s.getD s .no).sc → False := by
      intro h
      rcases List.mem_append.1 hin2 with h2 | h2
      · exact (Env.kill_sc E tks s c h).2 h2
      · simp only [List.mem_map] at h2
        obtain ⟨⟨t, s2⟩, h2, rfl⟩ := h2
        obtain ⟨v0, h4⟩ := hbs t s2 h2
        have h5 := hI.bt s2 t (by rw [h4]; simp [SV.bt])
        have h6 := hK.sc s t h
        rw [h6.2.2] at h5; simp at h5
    cases hsv : (E.kill tks).s.getD s .no with
    | box t v =>
      rw [hsv] at hc
      rcases List.mem_cons.1 hc with rfl | hc
      · have h5 := hK.bt s c (by rw [hsv]; simp [SV.bt])
        rcases List.mem_append.1 hin2 with h2 | h2
        · rw [(hts c h2).1.2.2] at h5; simp at h5
        · simp only [List.mem_map] at h2
          obtain ⟨⟨t, s2⟩, h2, rfl⟩ := h2
          obtain ⟨v2, h7⟩ := rel2 t s2 h2
          obtain ⟨v0, h4⟩ := hbs t s2 h2
          -- the slot is the same
          have h8 : ∃ v', E.s.getD s .no = .box t v' := by
            rw [Env.kill_get] at hsv
            split at hsv
            · exact ⟨v, hsv⟩
            · exact mapM_box hsv
          obtain ⟨v', h8⟩ := h8
          have := hI.uni s s2 t v' v0 h8 h4
          subst this
          exact hnb t v2 h7
      · exact hsc' (by rw [hsv]; exact hc)
    | _ => rw [hsv] at hc; exact hsc' (by rw [hsv]; exact hc)
  have hsame : ∀ b, 0 < G.col b → G.col b ∉ tks ++ bs.map (·.1) → w'.heap[b]? = w.heap[b]? ∧ G2.col b = G.col b := by
    intro b hb hn
    have hlt := hI.lt b hb
    have h1 : G1.col b < 3 := by
      rcases Nat.lt_or_ge (G1.col b) 3 with h | h
      · exact h
      · exfalso
        rcases htaken b h with h | ⟨s, h⟩
        · exact hn (List.mem_append_left _ h)
        · exact hn (List.mem_append_right _ (List.mem_map.2 ⟨_, h, rfl⟩))
    have hf := hp.frame b hlt h1
    refine ⟨hf.2, ?_⟩
    have h2 : G1.col b ≠ 2 := by rcases hcol1 b with h | h | h <;> omega
    rcases hcs b with h | h | h | h | h | h | h <;> omega
  have hframe : ∀ b, b < w0.heap.size → c0.col b < 3 → G2.col b = c0.col b ∧ w'.heap[b]? = w0.heap[b]? := by
    intro b hb hc
    have hf := hI.frame b hb hc
    have hlt : b < w.heap.size := Nat.lt_of_lt_of_le hb hI.size
    have h1 : G1.col b < 3 ∧ G1.col b ≠ 2 := by rcases hcol1 b with h | h | h <;> omega
    have hf2 := hp.frame b hlt h1.1
    refine ⟨?_, hf2.2.trans hf.2⟩
    rw [← hf.1]
    rcases hcs b with h | h | h | h | h | h | h <;> omega
  have hC := hD.change (U' := fun u => U u ∨ (tk ≤ u ∧ u < tk + 32)) (w' := w') (G' := G2) hhc hsame (fun t ht => ⟨hG2h t ht, hG2b t ht⟩) (fun c hc => .inl hc)
    (fun b hb => by
      rcases hcs b with h | ⟨_, _, h, _⟩ | h | ⟨_, h⟩ | ⟨_, h⟩ | ⟨_, _, _, h⟩ | h
      · right; omega
      · rw [h] at hb ⊢; exact .inl (hI.colU b hb)
      · omega
      · rw [h]; exact .inl hI.two.1
      · rw [h] at hb ⊢; exact .inl (hI.colU b hb)
      · rw [h] at hb ⊢; exact .inl (hI.colU b hb)
      · omega)
    (fun b hb => by
      rcases hcs b with h | h | h | h | h | h | h
      · exact hp.lt b (by omega)
      · exact hp.lt b (by omega)
      · exact hp.lt b (by omega)
      · exact hp.lt b (by omega)
      · exact hp.lt b (by omega)
      · exact Nat.lt_of_lt_of_le h.2.1 hp.size
      · omega)
    (fun b hb => by
      rcases hcs b with h | h | h | h | h | h | h
      · exact hp.fresh b (by omega)
      · exact hp.fresh b (by omega)
      · exact hp.fresh b (by omega)
      · omega
      · have h1 := hp.one b h.1
        rw [(hp.frame b h1.1 (by omega)).2]
        exact hI.fresh b (by omega)
      · rw [(hp.frame b h.2.1 (by omega)).2]
        exact hI.fresh b (by omega)
      · omega)
    hframe
    (fun b hb => by
      rcases hcs b with h | h | h | h | h | h | h <;> omega)
    hp.size hp.os hp.tape hp.output
  -- colours of what is shared
  have hgoodhs : ((con.rs.any fun r => r.pt.hasShr) = true ∨ ioShr con.ps = true) → ∀ c ∈ hs', Good (fun u => U u ∨ (tk ≤ u ∧ u < tk + 32)) G2 c := by
    intro hsh c hc
    have hnr : hasRd con.ps = false := by
      simp only [conOk, Bool.and_eq_true, Bool.or_eq_true, Bool.not_eq_true', Bool.or_eq_false_iff] at hcon
      rcases hcon.2 with h | ⟨h1, h2⟩
      · exact h
      · rcases hsh with h | h
        · rw [h] at h1; cases h1
        · rw [h] at h2; cases h2
    rw [hhs, List.mem_eraseDups, List.mem_cons] at hc
    rcases hc with rfl | hc
    · exact ⟨by omega, .inl hI.two.1, (hG2b 2 hI.two.1).trans hI.two.2⟩
    · simp only [List.mem_map, List.mem_filter, decide_eq_true_eq] at hc
      obtain ⟨⟨c', k⟩, ⟨h1, h2⟩, rfl⟩ := hc
      simp only at h2
      subst h2
      rcases hin' _ _ h1 with ⟨_, q1, q2, q3⟩ | h
      · exact ⟨q1, .inl q2, (hG2b c' q2).trans (q3.resolve_right (by simp [hnr]))⟩
      · omega
  have hresB : ∀ c ∈ resBox con.rs tk, tk ≤ c ∧ c < tk + (resNt con.rs k0 - k0) := by
    intro c hc
    have h1 := resBox_in c hc
    have h2 := resNt_shift con.rs 0 tk
    rw [Nat.zero_add] at h2
    omega
  have hbox : ∀ t s v, (t, s, v) ∈ IO → SOk w' G2 (.box t v) (a.tmps.getD s undef) ∧ Ment (fun u => U u ∨ (tk ≤ u ∧ u < tk + 32)) G2 (.box t v) := by
    rintro t s ⟨τ2, x2, sh2⟩ hin2
    obtain ⟨te', i, v1, p, k1, v0, q1, q2, q3, q4, q5, q6, q7, rfl, q9, q10⟩ := rel1 t s _ hin2
    simp only at q9
    subst q9
    have hios := hp.ios te' i ⟨τ2, x2, (ptShape p k1 [2, 1]).1⟩ (by
      rw [hk, sc3]
      rw [Nat.zero_add] at q1
      exact q1)
    obtain ⟨bk, c, el, e1, e2, e3, e4, e5, e6⟩ := hios
    have hsl := hI.slots s
    rw [q4] at hsl
    obtain ⟨bk0, c', el', f1, f2, f3, f4, _⟩ := hsl
    rw [q5, f3, f1] at e1
    simp only [Value.pointer.injEq, Option.some.injEq, Addr.mk.injEq, and_true] at e1
    subst e1
    have hte := boxToks_in te' q3
    rw [hk] at hte
    have hUt := (hI.bt s t (by rw [q4]; simp [SV.bt])).2.1
    have hlt := hI.lt bk0 (by omega)
    refine ⟨⟨bk0, c, el, f1, f2, (hG2h t hUt).trans f3, ?_, e5, ?_⟩, fun d hd => ?_, fun d hd => ?_, by simp [SV.rt]⟩
    · rw [← hG2]
      simp only [retG]
      rw [if_pos (by omega), if_neg (by omega), if_pos hlt]
      exact f4
    · exact recol_pt hRec h3 (by omega) (by omega) e6
    · rcases ptShape_shared d hd with h | ⟨h1, h2⟩
      · exact hgoodhs (.inr (q10 h.2)) d h.1
      · have e7 : ptNext p (tk + (k1 - k0)) = tk + (ptNext p k1 - k0) := by
          rw [show tk + (k1 - k0) = (k1 - k0) + tk by omega, ptNext_shift]
          have := ptNext_shift p (k1 - k0) k0
          rw [show k1 - k0 + k0 = k1 by omega] at this
          have := ptNext_ge p k1
          omega
        have h5 : d < tk + 32 := by omega
        refine ⟨by omega, .inr ⟨by omega, h5⟩, ?_⟩
        rw [← hG2]
        simp only [retG]
        rw [if_pos (by omega)]
        simp only [List.contains_eq_mem, decide_eq_false_iff_not]
        intro hin3
        have := hresB d hin3
        omega
    · simp only [SV.bt, List.mem_singleton] at hd
      subst hd
      have h := hI.bt s d (by rw [q4]; simp [SV.bt])
      exact ⟨h.1, .inl h.2.1, (hG2b d h.2.1).trans h.2.2⟩
  have hkb : ∀ {s t v}, (E.kill tks).s.getD s .no = .box t v → ∃ v', E.s.getD s .no = .box t v' := by
    intro s t v h
    rw [Env.kill_get] at h
    split at h
    · exact ⟨v, h⟩
    · exact mapM_box h
  have hF := hC.putAll IO hbox hpw (fun t s v hin2 s' u he => by
    obtain ⟨te', i, v1, p, k1, v0, _, _, _, q4, _⟩ := rel1 t s v hin2
    have h1 : (E.kill tks).s.getD s' .no = .box t u := by
      rcases hDget s' with h | h
      · exact h.symm.trans he
      · have : SV.no = .box t u := h.symm.trans he
        cases this
    obtain ⟨v', h2⟩ := hkb h1
    have := hI.uni s' s t v' v0 h2 q4
    subst this
    have h3 : SV.no = .box t u := (dropBoxes_in IO (E.kill tks).s s' ⟨t, v, hin2⟩).1.symm.trans he
    cases h3)
  simp only [put_drop] at hF
  have hres := sc5 hRec (by omega) vs (fun i => by have := hp.res i; rw [hk] at this; exact this)
  have hkeep : ∀ u u', (u, u') ∈ rpOf E.rd bs IO con.kp → G2.hdr u' = G.hdr u ∧ 3 ≤ u' ∧ Good (fun u => U u ∨ (tk ≤ u ∧ u < tk + 32)) G2 u' := by
    intro u u' hu
    unfold rpOf at hu
    simp only [List.mem_filterMap] at hu
    obtain ⟨q, hq, hu⟩ := hu
    split at hu
    · rename_i b z hb hz
      split at hu
      · rename_i rr hr1
        split at hu
        · rename_i a1 a2 e1 e2
          simp only [Option.some.injEq, Prod.mk.injEq] at hu
          obtain ⟨rfl, rfl⟩ := hu
          obtain ⟨te', i, v0, v2, τ, g1, g2, g3, g4, g5, g6, g7⟩ := gather_idx hI (hs' := hs') (i0 := 0) hg (fun i => (hs i).1) (scatter con.rs (ioTys con.ps) y k0 [2, 1]).2.1 (tk + (resNt con.rs k0 - k0)) q.1 b.1 b.2 hb
          rw [hio] at g3
          rw [hz] at g3
          simp only [Option.some.injEq] at g3
          subst g3
          rw [g5] at hr1
          simp only [Option.some.injEq] at hr1
          subst hr1
          have hzin := List.mem_of_getElem? hz
          have hbx := hbox b.1 b.2 v2 hzin
          obtain ⟨h1, bk, c, el, f1, f2, f3, f4, f5⟩ := hI.box g5
          have hsl := hI.slots b.2
          rw [h1] at hsl
          obtain ⟨bk0, c0', el0, k1', k2', k3', k4', k5', k6'⟩ := hsl
          obtain ⟨bk1, c1, el1, j1, j2, j3, j4, j5, j6⟩ := hbx.1
          rw [j1] at k1'
          simp only [Value.pointer.injEq, Option.some.injEq, Addr.mk.injEq, and_true] at k1'
          subst k1'
          have r1 := rowTok_ok k6' e1
          have r2 := rowTok_ok j6 e2
          have hkp := hp.kept q hq te' (0 + i) τ g1 g2 bk1 c0' el0 c1 el1 (by rw [Nat.zero_add, g7, k3', j1]) k5' j5
          rw [g4] at r2
          simp only [g6] at r1
          rw [r1.1, r2.1] at hkp
          simp only [Option.some.injEq] at hkp
          exact ⟨hkp, r2.2.1, hbx.2.1 _ r2.2.2⟩
        · cases hu
      · cases hu
    · cases hu
  refine ⟨G2, hF, ?_, ?_, fun t u he s u' he2 => ?_, hkeep, fun t s v hin2 => ?_⟩
  rotate_right
  · obtain ⟨te', i, v1, p, k1, v0, _, _, _, q4, _⟩ := rel1 t s v hin2
    exact ⟨v0, q4⟩
  · rw [hp.val]
    exact resSV_ok (by rw [hp.len, sc4]) hres
  · refine resSV_ment (fun sv hsv => ?_)
    obtain ⟨h1, h2, h4⟩ := sc6 sv hsv
    refine ⟨fun c hc => ?_, fun c hc => ?_, by rw [h4]; simp⟩
    · rcases h1 c hc with h | ⟨q1, q2, q3⟩
      · exact hgoodhs (.inl h.2) c h.1
      · refine ⟨by omega, .inr ⟨q1, by omega⟩, ?_⟩
        rw [← hG2]
        simp only [retG]
        rw [if_pos (by omega)]
        simpa using q3
    · have hb := hresB c (h2 c hc)
      refine ⟨by omega, .inr ⟨hb.1, by omega⟩, ?_⟩
      rw [← hG2]
      simp only [retG]
      rw [if_pos (by omega)]
      simpa using h2 c hc
  · have ht : t ∈ resBox con.rs tk := by
      rcases resSV_eq (scatter con.rs (ioTys con.ps) y tk hs').1 with ⟨sv, hL, e⟩ | ⟨_, ⟨ts, _, e⟩ | e⟩
      · rw [e] at he
        subst he
        exact (sc6 (.box t u) (by rw [hL]; simp)).2.1 t (by simp [SV.bt])
      · rw [e] at he; cases he
      · rw [e] at he; cases he
    have hb := hresB t ht
    have hUt : U t := by
      rcases putBoxes_get IO (E.kill tks).s s with h | ⟨t', v', h1, h2⟩
      · rw [h] at he2
        exact (hK.bt s t (by rw [he2]; simp [SV.bt])).2.1
      · rw [h2] at he2
        simp only [SV.box.injEq] at he2
        obtain ⟨te', i, v1, p, k1, v0, _, _, _, q4, _⟩ := rel1 t' s v' h1
        rw [← he2.1]
        exact (hI.bt s t' (by rw [q4]; simp [SV.bt])).2.1
    exact hU t hb.1 (by omega) hUt

theorem putBoxes_at (s : Nat) : ∀ (l : List (Nat × Nat × TV)) {L L' : List SV}, L.length = L'.length → (putBoxes l L).getD s .no = (putBoxes l L').getD s .no ∨ ((putBoxes l L).getD s .no = L.getD s .no ∧ (putBoxes l L').getD s .no = L'.getD s .no)
  | [], _, _, _ => .inr ⟨rfl, rfl⟩
  | (t, s0, v) :: l, L, L', hl => by
    simp only [putBoxes]
    rcases putBoxes_at s l (L := L.set s0 (.box t v)) (L' := L'.set s0 (.box t v)) (by simpa using hl) with h | ⟨h1, h2⟩
    · exact .inl h
    · rw [h1, h2, get_set, get_set, hl]
      by_cases e : s = s0 ∧ s0 < L'.length
      · left; rw [if_pos e, if_pos e]
      · right; rw [if_neg e, if_neg e]; exact ⟨rfl, rfl⟩

theorem killR_len (E : Env) (ts : List Nat) (rp : List (Nat × Nat)) : (E.killR ts rp).s.length = E.s.length := by
  unfold Env.killR
  split
  · unfold Env.kill; split <;> simp
  · simp

theorem killR_get (E : Env) (ts : List Nat) (rp : List (Nat × Nat)) (s : Nat) : (E.killR ts rp).s.getD s .no = (E.kill ts).s.getD s .no ∨
    ∃ b b' e i o p τ, E.s.getD s .no = .ept b e i o p τ ∧ rp.lookup b = some b' ∧ (E.killR ts rp).s.getD s .no = .ept b' e i o p τ := by
  unfold Env.killR
  split
  · exact .inl rfl
  · have h0 : SV.killR ts rp .no = .no := by simp only [SV.killR]; split <;> rfl
    simp only [getD_map h0]
    have h1 : (E.kill ts).s.getD s .no = if ts.isEmpty then E.s.getD s .no else (E.s.getD s .no).kill ts := by
      unfold Env.kill
      split
      · rfl
      · exact getD_map (T := SV.kill ts) rfl s
    rw [h1]
    cases hs : E.s.getD s .no with
    | ept b e i o p τ =>
      cases hl : rp.lookup b with
      | none => left; simp only [SV.killR, hl]
      | some b' => right; exact ⟨b, b', e, i, o, p, τ, rfl, hl, by simp only [SV.killR, hl]⟩
    | _ => left; simp only [SV.killR]

/-- Slots told anew, one by one. -/
theorem Inv.upd {E2 : Env} (hI : Inv w0 c0 U E a w G) (hl : E2.s.length = E.s.length) (hk : E2.kp = E.kp)
    (h : ∀ s, E2.s.getD s .no = E.s.getD s .no ∨ (SOk w G (E2.s.getD s .no) (a.tmps.getD s undef) ∧ Ment U G (E2.s.getD s .no) ∧ ∀ t v, E2.s.getD s .no ≠ .box t v)) : Inv w0 c0 U E2 a w G := by
  refine { hI with len := hI.len.trans hl.symm, slots := fun s => ?_, sc := fun s => ?_, bt := fun s => ?_, rt := fun s => ?_, uni := fun s s' t u u' h1 h2 => ?_, hk := by rw [hk]; exact hI.hk }
  · rcases h s with h | h
    · rw [h]; exact hI.slots s
    · exact h.1
  · rcases h s with h | h
    · rw [h]; exact hI.sc s
    · exact h.2.1.1
  · rcases h s with h | h
    · rw [h]; exact hI.bt s
    · exact h.2.1.2.1
  · rcases h s with h | h
    · rw [h]; exact hI.rt s
    · exact h.2.1.2.2
  · rcases h s with h3 | h3
    · rcases h s' with h4 | h4
      · rw [h3] at h1; rw [h4] at h2; exact hI.uni s s' t u u' h1 h2
      · exact absurd h2 (h4.2.2 t u')
    · exact absurd h1 (h3.2.2 t u)

theorem lookup_memR : ∀ {l : List (Nat × Nat)} {a b : Nat}, l.lookup a = some b → (a, b) ∈ l := lookup_mem

theorem kill_kp (E : Env) (ts : List Nat) : (E.kill ts).kp = E.kp := by unfold Env.kill; split <;> rfl
theorem killR_kp (E : Env) (ts : List Nat) (rp : List (Nat × Nat)) : (E.killR ts rp).kp = E.kp := by
  unfold Env.killR; split
  · exact kill_kp E ts
  · rfl

/-- Pointers into rows whose heads are kept point there still. -/
theorem Inv.rep {c0' : C0} {w0' : World} {U' : Nat → Prop} {w' : World} {G2 : Gh} {ts : List Nat} {rp : List (Nat × Nat)} {IO : List (Nat × Nat × TV)}
    (hI : Inv w0 c0 U' { E.kill ts with s := putBoxes IO (E.kill ts).s } a w' G2) (h0 : Inv w0' c0' U E a w G)
    (hrp : ∀ u u', (u, u') ∈ rp → G2.hdr u' = G.hdr u ∧ 3 ≤ u' ∧ Good U' G2 u') :
    Inv w0 c0 U' { E.killR ts rp with s := putBoxes IO (E.killR ts rp).s } a w' G2 := by
  have hl : (E.killR ts rp).s.length = (E.kill ts).s.length := by rw [killR_len]; unfold Env.kill; split <;> simp
  refine hI.upd (by show (putBoxes IO (E.killR ts rp).s).length = (putBoxes IO (E.kill ts).s).length; rw [putBoxes_len, putBoxes_len, hl]) (by show (E.killR ts rp).kp = (E.kill ts).kp; rw [kill_kp, killR_kp]) (fun s => ?_)
  show (putBoxes IO (E.killR ts rp).s).getD s .no = (putBoxes IO (E.kill ts).s).getD s .no ∨ _
  rcases putBoxes_at s IO hl with h | ⟨h1, h2⟩
  · exact .inl h
  · rcases killR_get E ts rp s with h | ⟨b, b', e, i, o, p, τ, h3, h4, h5⟩
    · left; rw [h1, h2, h]
    · right
      show SOk w' G2 ((putBoxes IO (E.killR ts rp).s).getD s .no) _ ∧ Ment U' G2 ((putBoxes IO (E.killR ts rp).s).getD s .no) ∧ ∀ t v, (putBoxes IO (E.killR ts rp).s).getD s .no ≠ .box t v
      rw [h1, h5]
      have hs := h0.slots s
      rw [h3] at hs
      obtain ⟨bk, off, n, cap, k1, k2, k3, k4, k5⟩ := hs
      obtain ⟨g1, g2, g3⟩ := hrp b b' (lookup_mem h4)
      exact ⟨⟨bk, off, n, cap, g2, g1.trans k2, k3, k4, k5⟩, ⟨by simp [SV.sc], by simp [SV.bt], by simp only [SV.rt, List.mem_singleton]; rintro c rfl; exact g3⟩, by simp⟩

end
end Vg

/- VG, part 27: operations, all of them. -/
namespace Vg
open Go

/-- What an operation begins ends so. -/
def Enters (P : Program) (r : Result Next) (R : Value → World → Prop) : Prop :=
  match r with
  | .ok (.enter f args) w1 => Calls P f args w1 (fun e w' => ∃ v, e = .returned v ∧ R v w')
  | .ok (.value v) w1 => R v w1
  | _ => False

theorem Enters.mono {P : Program} {r : Result Next} {R R' : Value → World → Prop} (h : Enters P r R) (hR : ∀ v w, R v w → R' v w) : Enters P r R' := by
  unfold Enters at *
  split
  · rename_i f args w1
    exact Calls.mono h (fun e w' ⟨v, h1, h2⟩ => ⟨v, h1, hR v w' h2⟩)
  · exact hR _ _ h
  · rename_i h1 h2
    split at h
    · exact h1 _ _ _ rfl
    · exact h2 _ _ rfl
    · exact h

structure CxOk (P : Program) (C : Cx) : Prop extends CxTy P C where
  ct : ∀ f con, C.ct f = some con → Meets P f con
  mixed : P.follows .mixedOrders = true

section
variable {P : Program} {C : Cx} {w0 : World} {c0 : C0} {U : Nat → Prop} {E : Env} {a : Act} {w : World} {G : Gh} {ops : List Oper} {g : Option (Nat × Bool)}

theorem args_ok (hI : Inv w0 c0 U E a w G) (hR : RI ops E a.tmps) (hg : Gd ops a.tmps g) : ∀ {xs : List Operand} {ts : List TypeId} {as : List SV}, args_ C E.rd g xs ts = some as →
    as.length = xs.length ∧ ∀ i, SOk w G (as.getD i .no) ((xs.map a.eval).getD i undef) ∧ Ment U G (as.getD i .no)
  | [], [], as, h => by
    simp only [args_, Option.some.injEq] at h
    subst h
    exact ⟨rfl, fun i => ⟨trivial, by simp [Ment, SV.sc, SV.bt, SV.rt]⟩⟩
  | x :: xs, t :: ts, as, h => by
    simp only [args_] at h
    split at h
    · rename_i v vs h1 h2
      cases h
      obtain ⟨g1, g2⟩ := args_ok hI hR hg h2
      refine ⟨by simp [g1], fun i => ?_⟩
      cases i with
      | zero => simpa using arg_ok hI hR hg h1
      | succ i => simpa using g2 i
    · cases h
  | [], _ :: _, _, h | _ :: _, [], _, h => by simp [args_] at h

/-- What an operation's effect asks of the machine. -/
def EfS (P : Program) (w0 : World) (c0 : C0) (U : Nat → Prop) (E : Env) (a : Act) (r : Result Next) : Ef → Prop
  | .val v => Yields w0 c0 U E a r v
  | .chk c v => c = true → Yields w0 c0 U E a r v
  | .put b s v => ∃ w' G', r = .ok .skip w' ∧ Inv w0 c0 U { E with s := E.s.set s (.box b v) } a w' G'
  | .app c kl gv t v => c = true → Yields w0 c0 U ((E.kill kl).give gv t) a r v
  | .elem gv b e l m => ∃ w' G', r = .ok .skip w' ∧ Inv w0 c0 U (E.elem gv b e l m) a w' G'
  | .nap c gv b e l m v => c = true → Yields w0 c0 U (E.elem gv b e l m) a r v ∨ (v = .no ∧ ∃ w' G', r = .ok .skip w' ∧ Inv w0 c0 U (E.elem gv b e l m) a w' G')
  | .opt _ _ x f => ∀ y, x = some y → Enters P r (fun mv w' => ∃ G', Inv w0 c0 U E a w' G' ∧ SOk w' G' (f y) mv ∧ Ment U G' (f y) ∧ (∀ t u, f y = .box t u → ∀ s u', E.s.getD s .no ≠ .box t u'))
  | .call _ x tks f rp => ∀ y, x = some y → Enters P r (fun mv w' => ∃ G', Inv w0 c0 U { E.killR tks (rp y) with s := putBoxes (f y).2 (E.killR tks (rp y)).s } a w' G' ∧ SOk w' G' (f y).1 mv ∧ Ment U G' (f y).1 ∧
      (∀ t u, (f y).1 = .box t u → ∀ s u', (putBoxes (f y).2 (E.killR tks (rp y)).s).getD s .no ≠ .box t u'))

theorem EfS.of_efY {r : Result Next} {ef : Ef} (h : EfY w0 c0 U E a r ef) : EfS P w0 c0 U E a r ef := by
  cases ef <;> first | exact h | exact h.elim

theorem iosOf_nil (hs : List Nat) : ∀ (ps : List PK) (r : TupD (ioTys ps)) (k : Nat), iosOf hs ps r [] k = []
  | [], _, _ => rfl
  | .val _ _ :: ps, r, k => iosOf_nil hs ps r k
  | .io _ _ :: _, _, _ => rfl
  | .rd _ :: ps, r, k | .vx _ _ :: ps, r, k => iosOf_nil hs ps r k

theorem call_ok (hC : CxOk P C) (hI : Inv w0 c0 U E a w G) (hR : RI ops E a.tmps) (hg : Gd ops a.tmps g) {tk : Nat} (h3 : 3 ≤ tk) (hU : ∀ u, tk ≤ u → u < tk + 32 → ¬ U u) {o : Oper} {c : Call} {f : FuncId} {ef : Ef}
    (ho : o.op = .call c) (hb : c.callee = .value (.func f)) (h : evOp0 C ops E.rd tk g o = some ef) :
    EfS P w0 c0 (fun u => U u ∨ (tk ≤ u ∧ u < tk + 32)) E a ((execOp a.eval o).run P w) ef := by
  have hrun : (execOp a.eval o).run P w = (callFunc f (c.args.toList.map a.eval).toArray).run P w := by
    have e : (c.args.toList.map a.eval).toArray = c.args.map a.eval := Array.ext' (by simp)
    rw [e]
    simp only [execOp, ho]
    simp [resolve, hb, Deferred.ofValue, Act.eval, invoke]
  simp only [evOp0, ho, hb] at h
  unfold evCall at h
  split at h
  · cases h
  · rename_i con hct
    have hM := hC.ct f con hct
    split at h
    · cases h
    · rename_i as has
      obtain ⟨hlen, hargs⟩ := args_ok hI hR hg has
      split at h
      · cases h
      · rename_i xs rho bs hga
        split at h
        · rename_i hcond
          simp only [Bool.and_eq_true, decide_eq_true_eq] at hcond
          obtain ⟨⟨hr, h32⟩, hcon⟩ := hcond
          obtain ⟨G1, hlot, hG1⟩ := lot_ok hI hga hargs (by simp [hlen]) hr (fun c hc => by
            simp only [conOk, Bool.and_eq_true, List.all_eq_true, decide_eq_true_eq, Bool.not_eq_true', List.contains_eq_mem, decide_eq_false_iff_not] at hcon
            have := hcon.1 c hc
            exact ⟨this.1.1, this.1.2, this.2⟩)
          have key : ∀ y, con.F xs = some y → Enters P ((execOp a.eval o).run P w) (fun mv w' => ∃ G2,
              Inv w0 c0 (fun u => U u ∨ (tk ≤ u ∧ u < tk + 32)) { E.kill (((rho.filter (3 ≤ ·.2)).map (·.1)).filter fun c => !bs.any (·.1 = c)) with
                s := putBoxes (iosOf (2 :: (rho.filter (·.2 = 1)).map (·.1)).eraseDups con.ps (scatter con.rs (ioTys con.ps) y tk (2 :: (rho.filter (·.2 = 1)).map (·.1)).eraseDups).2.1 bs (scatter con.rs (ioTys con.ps) y tk (2 :: (rho.filter (·.2 = 1)).map (·.1)).eraseDups).2.2) (E.kill (((rho.filter (3 ≤ ·.2)).map (·.1)).filter fun c => !bs.any (·.1 = c))).s } a w' G2 ∧
              SOk w' G2 (resSV (scatter con.rs (ioTys con.ps) y tk (2 :: (rho.filter (·.2 = 1)).map (·.1)).eraseDups).1) mv ∧ Ment (fun u => U u ∨ (tk ≤ u ∧ u < tk + 32)) G2 (resSV (scatter con.rs (ioTys con.ps) y tk (2 :: (rho.filter (·.2 = 1)).map (·.1)).eraseDups).1) ∧
              (∀ t u, resSV (scatter con.rs (ioTys con.ps) y tk (2 :: (rho.filter (·.2 = 1)).map (·.1)).eraseDups).1 = .box t u → ∀ s u',
                (putBoxes (iosOf (2 :: (rho.filter (·.2 = 1)).map (·.1)).eraseDups con.ps (scatter con.rs (ioTys con.ps) y tk (2 :: (rho.filter (·.2 = 1)).map (·.1)).eraseDups).2.1 bs (scatter con.rs (ioTys con.ps) y tk (2 :: (rho.filter (·.2 = 1)).map (·.1)).eraseDups).2.2) (E.kill (((rho.filter (3 ≤ ·.2)).map (·.1)).filter fun c => !bs.any (·.1 = c))).s).getD s .no ≠ .box t u') ∧
              (∀ u u', (u, u') ∈ rpOf E.rd bs (iosOf (2 :: (rho.filter (·.2 = 1)).map (·.1)).eraseDups con.ps (scatter con.rs (ioTys con.ps) y tk (2 :: (rho.filter (·.2 = 1)).map (·.1)).eraseDups).2.1 bs (scatter con.rs (ioTys con.ps) y tk (2 :: (rho.filter (·.2 = 1)).map (·.1)).eraseDups).2.2) con.kp →
                G2.hdr u' = G.hdr u ∧ 3 ≤ u' ∧ Good (fun u => U u ∨ (tk ≤ u ∧ u < tk + 32)) G2 u') ∧
              (∀ t s v, (t, s, v) ∈ iosOf (2 :: (rho.filter (·.2 = 1)).map (·.1)).eraseDups con.ps (scatter con.rs (ioTys con.ps) y tk (2 :: (rho.filter (·.2 = 1)).map (·.1)).eraseDups).2.1 bs (scatter con.rs (ioTys con.ps) y tk (2 :: (rho.filter (·.2 = 1)).map (·.1)).eraseDups).2.2 → ∃ v0, E.s.getD s .no = .box t v0)) := by
            intro y hy
            rw [hrun]
            have := hM w G1 (c.args.toList.map a.eval) xs y hy hlot
            exact Enters.mono (show Enters P _ _ from this) (fun mv w' ⟨G', vs, nt, hp⟩ => ret_ok hI hcon hga hargs hr hG1 hp h3 hU h32 rfl rfl)
          simp only at h
          split at h
          · rename_i hemp
            cases h
            simp only [Bool.and_eq_true, List.isEmpty_iff] at hemp
            obtain ⟨e1, e2⟩ := hemp
            intro y hy
            refine (key y hy).mono (fun mv w' hh => ?_)
            obtain ⟨G2, k1, k2, k3, k4, _⟩ := hh
            rw [e2] at k1 k4
            subst e1
            simp only [iosOf_nil, putBoxes, Env.kill, List.isEmpty_nil, if_true] at k1 k4
            exact ⟨G2, k1, k2, k3, k4⟩
          · cases h
            intro y hy
            refine (key y hy).mono (fun mv w' hh => ?_)
            obtain ⟨G2, k1, k2, k3, k4, k5, k6⟩ := hh
            refine ⟨G2, k1.rep hI k5, k2, k3, fun t u he s u' he2 => ?_⟩
            have hl : (E.killR (((rho.filter (3 ≤ ·.2)).map (·.1)).filter fun c => !bs.any (·.1 = c)) (rpOf E.rd bs (iosOf (2 :: (rho.filter (·.2 = 1)).map (·.1)).eraseDups con.ps (scatter con.rs (ioTys con.ps) y tk (2 :: (rho.filter (·.2 = 1)).map (·.1)).eraseDups).2.1 bs (scatter con.rs (ioTys con.ps) y tk (2 :: (rho.filter (·.2 = 1)).map (·.1)).eraseDups).2.2) con.kp)).s.length = (E.kill (((rho.filter (3 ≤ ·.2)).map (·.1)).filter fun c => !bs.any (·.1 = c))).s.length := by
              rw [killR_len]; unfold Env.kill; split <;> simp
            rcases putBoxes_at s (iosOf (2 :: (rho.filter (·.2 = 1)).map (·.1)).eraseDups con.ps (scatter con.rs (ioTys con.ps) y tk (2 :: (rho.filter (·.2 = 1)).map (·.1)).eraseDups).2.1 bs (scatter con.rs (ioTys con.ps) y tk (2 :: (rho.filter (·.2 = 1)).map (·.1)).eraseDups).2.2) hl with h | ⟨h1, h2⟩
            · exact k4 t u he s u' (h.symm.trans he2)
            · rcases killR_get E (((rho.filter (3 ≤ ·.2)).map (·.1)).filter fun c => !bs.any (·.1 = c)) (rpOf E.rd bs (iosOf (2 :: (rho.filter (·.2 = 1)).map (·.1)).eraseDups con.ps (scatter con.rs (ioTys con.ps) y tk (2 :: (rho.filter (·.2 = 1)).map (·.1)).eraseDups).2.1 bs (scatter con.rs (ioTys con.ps) y tk (2 :: (rho.filter (·.2 = 1)).map (·.1)).eraseDups).2.2) con.kp) s with h | ⟨b, b', e, i, o, p, τ, h3, h4, h5⟩
              · exact k4 t u he s u' (h2.trans (h.symm.trans (h1.symm.trans he2)))
              · have := h5.symm.trans (h1.symm.trans he2)
                cases this
        · cases h

theorem evOp0_ok (hC : CxOk P C) (hI : Inv w0 c0 U E a w G) (hR : RI ops E a.tmps) (hg : Gd ops a.tmps g) {tk : Nat} (h3 : 3 ≤ tk) (hU : ∀ u, tk ≤ u → u < tk + 32 → ¬ U u) {o : Oper} {ef : Ef}
    (h : evOp0 C ops E.rd tk g o = some ef) : EfS P w0 c0 (fun u => U u ∨ (tk ≤ u ∧ u < tk + 32)) E a ((execOp a.eval o).run P w) ef := by
  have hC' := hC.toCxTy
  have m0 : EfY w0 c0 U E a ((execOp a.eval o).run P w) ef → EfS P w0 c0 (fun u => U u ∨ (tk ≤ u ∧ u < tk + 32)) E a ((execOp a.eval o).run P w) ef := fun h => .of_efY (h.mono fun u hu => .inl hu)
  have m1 : EfY w0 c0 (fun u => U u ∨ u = tk) E a ((execOp a.eval o).run P w) ef → EfS P w0 c0 (fun u => U u ∨ (tk ≤ u ∧ u < tk + 32)) E a ((execOp a.eval o).run P w) ef :=
    fun h => .of_efY (h.mono fun u hu => hu.imp id fun e => by omega)
  have hU0 := hU tk (Nat.le_refl _) (by omega)
  cases ho : o.op with
  | move x =>
    have h' := h
    simp only [evOp0, ho, Option.map_eq_some_iff] at h'
    obtain ⟨sv, hs, rfl⟩ := h'
    exact m0 (move_ok hI hR hg hs (by simp [execOp, ho]))
  | assign x =>
    have h' := h
    simp only [evOp0, ho, Option.map_eq_some_iff] at h'
    obtain ⟨sv, hs, rfl⟩ := h'
    exact m0 (move_ok hI hR hg hs (by simp [execOp, ho]))
  | pick c x y => exact m0 (pick_ok hI hR hg ho h)
  | alloc t => exact m1 (alloc_ok hC' hI h3 hU0 ho h)
  | box t x => exact m1 (box_ok hI hR hg h3 hU0 ho h)
  | build t ps => exact m0 (bld_ok hC' hI hR hg ho h)
  | buildSlice t n ps => exact m1 (buildSlice_ok hC' hI hR hg h3 hU0 ho h)
  | load t x => exact m0 (load_ok hC' hI hR hg ho h)
  | nilCheck x => exact m0 (nilCheck_ok hI hR hg ho h)
  | binOp op t x y u => exact m0 (bin_ok hC' hI hR hg ho h)
  | unOp op t x => exact m0 (un_ok hI hR hg ho h)
  | convert s d x => exact m0 (conv_ok hC' hI hR hg ho h)
  | makeSlice t n c => exact m1 (makeSlice_ok hC' hI hR hg h3 hU0 ho h)
  | slice t x lo hi mx => exact m0 (slice_ok hC' hI hR hg ho h)
  | fieldAddr s x j => exact m0 (fieldAddr_ok hC' hI hR hg ho h)
  | field s x j => exact m0 (field_ok hC' hI hR hg ho h)
  | indexAddr t x n => exact m0 (indexAddr_ok hC' hI hR hg ho h)
  | index t x n => exact m0 (index_ok hC' hI hR hg ho h)
  | extract x j => exact m0 (extract_ok hI hR hg ho h)
  | store t x y =>
    have key : ∀ e, evOp0 C ops E.rd tk g o = some e → (∃ b s v, e = .put b s v) ∨ ∃ gv b e' l m, e = .elem gv b e' l m := by
      intro e he
      simp only [evOp0, ho] at he
      split at he
      · split at he
        · obtain ⟨r, _, rfl⟩ := Option.map_eq_some_iff.mp (Option.ite_none_right_eq_some.mp he).2
          exact .inl ⟨_, _, _, rfl⟩
        · cases he
      · split at he
        · obtain ⟨_, he⟩ := Option.ite_none_right_eq_some.mp he
          obtain ⟨_, he⟩ := Option.ite_none_left_eq_some.mp he
          obtain ⟨r, _, rfl⟩ := Option.map_eq_some_iff.mp he
          exact .inr ⟨_, _, _, _, _, rfl⟩
        · cases he
      · cases he
    rcases key _ h with ⟨b, s, v, rfl⟩ | ⟨gv, b, e', l, m, rfl⟩
    · obtain ⟨w', h1, h2⟩ := put_ok hC' hI hR hg ho h
      exact ⟨w', G, h1, h2.mono fun u hu => .inl hu⟩
    · obtain ⟨w', G', h1, h2⟩ := elem_ok hC' hI hR hg ho h
      exact ⟨w', G', h1, h2.mono fun u hu => .inl hu⟩
  | call c =>
    cases hb : c.callee with
    | builtin b =>
      by_cases happ : ∃ cd kl gv t v, ef = .app cd kl gv t v
      · obtain ⟨cd, kl, gv, t, v, rfl⟩ := happ
        have hba : b = .append := by
          have h' := h
          simp only [evOp0, ho, hb] at h'
          unfold evBuiltin at h'
          split at h'
          · exfalso
            split at h'
            · cases h'
            · split at h'
              · split at h' <;> cases h'
              · split at h' <;> cases h'
              · cases h'
          · exfalso
            split at h'
            · split at h' <;> cases h'
            · cases h'
          · exfalso
            split at h'
            · split at h' <;> cases h'
            · cases h'
          · rfl
          · cases h'
        subst hba
        intro hcd
        obtain ⟨rfl, hy⟩ := app_ok hC' hI hR hg h3 hU0 ho hb h hcd
        exact hy.mono fun u hu => hu.imp id fun e => by omega
      · exact m0 (len_ok hC' hI hR hg ho hb (fun x y z u v e => happ ⟨x, y, z, u, v, e⟩) h)
    | value x =>
      cases x with
      | func f => exact call_ok hC hI hR hg h3 hU ho hb h
      | _ => simp [evOp0, ho, hb] at h
    | invoke r m => simp [evOp0, ho, hb] at h
  | _ => simp [evOp0, ho] at h

end
end Vg

/- VG, part 27b: slices within elements of an own row that are appended to in place. -/
namespace Vg
open Go

theorem RepL.det {α : Type} {R R' : α → List Value → List Nat → Prop} {sz : Nat} (hl : ∀ x c B, R x c B → c.length = sz) (hl' : ∀ x c B, R' x c B → c.length = sz)
    (hR : ∀ x x' c B B', R x c B → R' x' c B' → x = x') : ∀ {l l' : List α} {cs : List Value} {B B' : List Nat}, RepL R l cs B → RepL R' l' cs B' → l.length = l'.length → l = l'
  | [], [], _, _, _, _, _, _ => rfl
  | x :: l, y :: l', cs, B, B', h, h', hn => by
    obtain ⟨c1, c2, B1, B2, rfl, rfl, h1, h2⟩ := h
    obtain ⟨d1, d2, D1, D2, he, rfl, k1, k2⟩ := h'
    have e1 : c1.length = d1.length := by rw [hl _ _ _ h1, hl' _ _ _ k1]
    obtain ⟨rfl, rfl⟩ := List.append_inj he e1
    rw [hR _ _ _ _ _ h1 k1, RepL.det hl hl' hR h2 k2 (by simpa using hn)]
  | [], _ :: _, _, _, _, _, _, hn | _ :: _, [], _, _, _, _, _, hn => by simp at hn

/-- The cells tell the value. -/
theorem Rep.det {w : World} : ∀ {τ : Ty} {x x' : τ.den} {cs : List Value} {B B' : List Nat}, Rep w τ x cs B → Rep w τ x' cs B' → x = x'
  | .int _, x, x', cs, _, _, h, h' => by have := h.1.symm.trans h'.1; simpa using this
  | .bool, x, x', cs, _, _, h, h' => by have := h.1.symm.trans h'.1; simpa using this
  | .str, x, x', cs, _, _, h, h' => by have := h.1.symm.trans h'.1; simpa using this
  | .pair a b, x, x', cs, _, _, h, h' => by
    obtain ⟨c1, c2, B1, B2, rfl, rfl, h1, h2⟩ := h
    obtain ⟨d1, d2, D1, D2, he, rfl, k1, k2⟩ := h'
    obtain ⟨rfl, rfl⟩ := List.append_inj he (by rw [Rep.len h1, Rep.len k1])
    exact Prod.ext (Rep.det h1 k1) (Rep.det h2 k2)
  | .sl e, l, l', cs, _, _, h, h' => by
    obtain ⟨v, rfl, h⟩ := h
    obtain ⟨v', hv, h'⟩ := h'
    simp only [List.cons.injEq, and_true] at hv
    subst hv
    rcases h with ⟨⟨ao, e1⟩, e1', _⟩ | ⟨b, off, cap, c, el, fz, Bs, e1, hcap, hb, hsz, _, hl⟩ <;> rcases h' with ⟨⟨ao', e2⟩, e2', _⟩ | ⟨b', off', cap', c', el', fz', Bs', e2, hcap', hb', hsz', _, hl'⟩
    · rw [e1', e2']
    · rw [e1] at e2
      simp only [Value.slice.injEq] at e2
      rw [e1', List.length_eq_zero_iff.1 e2.2.1.symm]
    · rw [e1] at e2
      simp only [Value.slice.injEq] at e2
      rw [e2', List.length_eq_zero_iff.1 e2.2.1]
    · rw [e1] at e2
      simp only [Value.slice.injEq, Option.some.injEq, Addr.mk.injEq, and_true] at e2
      obtain ⟨⟨rfl, rfl⟩, hn, rfl⟩ := e2
      rw [hb] at hb'
      simp only [Option.some.injEq, Obj.cells.injEq] at hb'
      obtain ⟨rfl, _, _⟩ := hb'
      rw [← hn] at hl'
      exact RepL.det (sz := e.sz) (fun x c B h => Rep.len h) (fun x c B h => Rep.len h) (fun x x' c B B' h h' => Rep.det h h') hl hl' hn

theorem sub_nil (τ : Ty) : τ.sub [] = some τ := by cases τ <;> rfl
theorem off_nil (τ : Ty) : τ.off [] = 0 := by cases τ <;> rfl

/-- A part of a value: what stands there, and how it is put anew. -/
theorem Rep.place {w : World} : ∀ {p : List Bool} {τ σ : Ty} {x : τ.den} {cs : List Value} {B : List Nat}, Rep w τ x cs B → τ.sub p = some σ →
    ∃ (f : σ.den → τ.den) (z : σ.den) (Ba Bo Bb : List Nat), f z = x ∧ B = Ba ++ Bo ++ Bb ∧ Rep w σ z ((cs.drop (τ.off p)).take σ.sz) Bo ∧ τ.off p + σ.sz ≤ τ.sz ∧
      ∀ (w' : World) (z' : σ.den) (cz : List Value) (B' : List Nat), (∀ k ∈ Ba ++ Bb, w'.heap[k]? = w.heap[k]?) → Rep w' σ z' cz B' → Rep w' τ (f z') (splice (τ.off p) cz cs) (Ba ++ B' ++ Bb)
  | [], τ, σ, x, cs, B, h, hs => by
    rw [sub_nil] at hs
    cases hs
    have hl := Rep.len h
    refine ⟨id, x, [], B, [], rfl, by simp, ?_, by rw [off_nil]; omega, fun w' z' cz B' _ hz => ?_⟩
    · rw [off_nil, List.drop_zero, List.take_of_length_le (by omega)]; exact h
    · rw [off_nil]
      unfold splice
      rw [List.take_zero, List.nil_append, Nat.zero_add, List.drop_of_length_le (by rw [hl, Rep.len hz]; exact Nat.le_refl _), List.append_nil]
      simpa using hz
  | false :: p, .pair a b, σ, x, cs, B, h, hs => by
    obtain ⟨c1, c2, B1, B2, rfl, rfl, h1, h2⟩ := h
    simp only [Ty.sub] at hs
    obtain ⟨f, z, Ba, Bo, Bb, q1, rfl, q3, q4, q5⟩ := Rep.place h1 hs
    have hl := Rep.len h1
    refine ⟨fun z' => (f z', x.2), z, Ba, Bo, Bb ++ B2, Prod.ext q1 rfl, by simp, ?_, by simp only [Ty.off, Ty.sz]; omega, fun w' z' cz B' hk hz => ?_⟩
    · simp only [Ty.off]
      rw [List.drop_append_of_le_length (by omega), List.take_append_of_le_length (by simp; omega)]
      exact q3
    · have hlz := Rep.len hz
      refine ⟨_, c2, _, B2, ?_, by simp, q5 w' z' cz B' (fun k hk' => hk k (by simp only [List.mem_append] at hk' ⊢; rcases hk' with h | h <;> simp [h])) hz, Rep.mono (fun k hk' => hk k (by simp [hk'])) h2⟩
      simp only [Ty.off, splice]
      rw [List.take_append_of_le_length (by omega), List.drop_append_of_le_length (by omega)]
      simp
  | true :: p, .pair a b, σ, x, cs, B, h, hs => by
    obtain ⟨c1, c2, B1, B2, rfl, rfl, h1, h2⟩ := h
    simp only [Ty.sub] at hs
    obtain ⟨f, z, Ba, Bo, Bb, q1, rfl, q3, q4, q5⟩ := Rep.place h2 hs
    have hl := Rep.len h1
    refine ⟨fun z' => (x.1, f z'), z, B1 ++ Ba, Bo, Bb, Prod.ext rfl q1, by simp, ?_, by simp only [Ty.off, Ty.sz]; omega, fun w' z' cz B' hk hz => ?_⟩
    · simp only [Ty.off]
      rw [← hl, List.drop_append, List.drop_of_length_le (by omega), List.nil_append, show c1.length + b.off p - c1.length = b.off p by omega]
      exact q3
    · refine ⟨c1, _, B1, _, ?_, by simp, Rep.mono (fun k hk' => hk k (by simp [hk'])) h1, q5 w' z' cz B' (fun k hk' => hk k (by simp only [List.mem_append] at hk' ⊢; rcases hk' with h | h <;> simp [h])) hz⟩
      simp only [Ty.off, splice]
      rw [← hl, List.take_append, List.take_of_length_le (by omega), List.drop_append, List.drop_of_length_le (by omega)]
      simp [Nat.add_assoc]
  | b :: p, .int _, _, _, _, _, _, hs | b :: p, .bool, _, _, _, _, _, hs | b :: p, .str, _, _, _, _, _, hs | b :: p, .sl _, _, _, _, _, _, hs => by simp [Ty.sub] at hs

theorem RepL.world' {e : Ty} {w w' : World} {l : List e.den} {cs : List Value} {B : List Nat} (hB : ∀ b ∈ B, w'.heap[b]? = w.heap[b]?) (h : RepL (Rep w e) l cs B) : RepL (Rep w' e) l cs B := RepL.world hB h

theorem sub_off : ∀ {p : List Bool} {τ σ : Ty}, τ.sub p = some σ → τ.off p + σ.sz ≤ τ.sz
  | [], τ, σ, h => by rw [sub_nil] at h; cases h; rw [off_nil]; omega
  | false :: p, .pair a b, σ, h => by have := sub_off (τ := a) h; simp only [Ty.off, Ty.sz]; omega
  | true :: p, .pair a b, σ, h => by have := sub_off (τ := b) h; simp only [Ty.off, Ty.sz]; omega
  | b :: p, .int _, _, hs | b :: p, .bool, _, hs | b :: p, .str, _, hs | b :: p, .sl _, _, hs => by simp [Ty.sub] at hs

theorem subV_sub : ∀ {p : List Bool} {τ : Ty} {x : τ.den} {sh : Sh} {r : TV}, subV τ x sh p = some r → τ.sub p = some r.τ
  | [], τ, x, sh, r, h => by
    have : r = ⟨τ, x, sh⟩ := by cases τ <;> (simp only [subV, Option.some.injEq] at h; exact h.symm)
    rw [sub_nil, this]
  | false :: p, .pair a b, x, .pair s1 s2, r, h => by simp only [subV] at h; simp only [Ty.sub]; exact subV_sub h
  | true :: p, .pair a b, x, .pair s1 s2, r, h => by simp only [subV] at h; simp only [Ty.sub]; exact subV_sub h
  | b :: p, .int _, _, _, _, h | b :: p, .bool, _, _, _, h | b :: p, .str, _, _, _, h | b :: p, .sl _, _, _, _, h => by simp [subV] at h
  | b :: p, .pair _ _, _, .leaf, _, h | b :: p, .pair _ _, _, .sl _, _, h => by cases b <;> simp [subV] at h

theorem subV_rep {w : World} : ∀ {p : List Bool} {τ : Ty} {x : τ.den} {sh : Sh} {r : TV} {cs : List Value} {B : List Nat}, subV τ x sh p = some r → Rep w τ x cs B →
    ∃ B', Rep w r.τ r.x ((cs.drop (τ.off p)).take r.τ.sz) B'
  | [], τ, x, sh, r, cs, B, h, hr => by
    have : r = ⟨τ, x, sh⟩ := by cases τ <;> (simp only [subV, Option.some.injEq] at h; exact h.symm)
    subst this
    rw [off_nil, List.drop_zero, List.take_of_length_le (by rw [Rep.len hr]; exact Nat.le_refl _)]
    exact ⟨B, hr⟩
  | false :: p, .pair a b, x, .pair s1 s2, r, cs, B, h, hr => by
    obtain ⟨c1, c2, B1, B2, rfl, rfl, h1, h2⟩ := hr
    simp only [subV] at h
    obtain ⟨B', h3⟩ := subV_rep h h1
    have hso := sub_off (subV_sub h)
    have hl := Rep.len h1
    refine ⟨B', ?_⟩
    simp only [Ty.off]
    rw [List.drop_append_of_le_length (by omega), List.take_append_of_le_length (by simp; omega)]
    exact h3
  | true :: p, .pair a b, x, .pair s1 s2, r, cs, B, h, hr => by
    obtain ⟨c1, c2, B1, B2, rfl, rfl, h1, h2⟩ := hr
    simp only [subV] at h
    obtain ⟨B', h3⟩ := subV_rep h h2
    have hl := Rep.len h1
    refine ⟨B', ?_⟩
    simp only [Ty.off]
    rw [← hl, List.drop_append, List.drop_of_length_le (by omega), List.nil_append, show c1.length + b.off p - c1.length = b.off p by omega]
    exact h3
  | b :: p, .int _, _, _, _, _, _, h, _ | b :: p, .bool, _, _, _, _, _, h, _ | b :: p, .str, _, _, _, _, _, h, _ | b :: p, .sl _, _, _, _, _, _, h, _ => by simp [subV] at h
  | b :: p, .pair _ _, _, .leaf, _, _, _, h, _ | b :: p, .pair _ _, _, .sl _, _, _, _, h, _ => by cases b <;> simp [subV] at h

/-- A part of an element of a row. -/
theorem RepL.place {w : World} {τ σ : Ty} {l : List τ.den} {cs : List Value} {B : List Nat} (h : RepL (Rep w τ) l cs B) {i : Nat} (hi : i < l.length) {p : List Bool} (hs : τ.sub p = some σ) :
    ∃ (f : σ.den → List τ.den) (z : σ.den) (Ba Bo Bb : List Nat), f z = l ∧ B = Ba ++ Bo ++ Bb ∧ Rep w σ z ((cs.drop (i * τ.sz + τ.off p)).take σ.sz) Bo ∧ i * τ.sz + τ.off p + σ.sz ≤ l.length * τ.sz ∧ (∀ z', (f z').length = l.length) ∧
      ∀ (w' : World) (z' : σ.den) (cz : List Value) (B' : List Nat), (∀ k ∈ Ba ++ Bb, w'.heap[k]? = w.heap[k]?) → Rep w' σ z' cz B' → RepL (Rep w' τ) (f z') (splice (i * τ.sz + τ.off p) cz cs) (Ba ++ B' ++ Bb) := by
  have hg : l[i]? = some l[i] := List.getElem?_eq_getElem hi
  obtain ⟨B1, Bx, B2, rfl, h1, h2, h3⟩ := RepL.get (sz := τ.sz) (fun x c B h => Rep.len h) h hg
  obtain ⟨f, z, Ba, Bo, Bb, q1, rfl, q3, q4, q5⟩ := Rep.place h1 hs
  have hl := RepL.len (sz := τ.sz) (fun x c B h => Rep.len h) h
  have hmul : (i + 1) * τ.sz ≤ l.length * τ.sz := Nat.mul_le_mul_right _ hi
  rw [Nat.add_mul, Nat.one_mul] at hmul
  refine ⟨fun z' => l.set i (f z'), z, B1 ++ Ba, Bo, Bb ++ B2, by show l.set i (f z) = l; rw [q1]; simp, by simp, ?_, by omega, fun z' => by simp, fun w' z' cz B' hk hz => ?_⟩
  · rw [List.drop_take, List.take_take, List.drop_drop, Nat.min_eq_left (by omega)] at q3
    exact q3
  · have hz' := q5 w' z' cz B' (fun k hk' => hk k (by simp only [List.mem_append] at hk' ⊢; rcases hk' with h | h <;> simp [h])) hz
    have hset := RepL.set (sz := τ.sz) (l := l) (cs := cs) hi hz' (RepL.world' (fun k hk' => hk k (by simp [hk'])) h2) (RepL.world' (fun k hk' => hk k (by simp [hk'])) h3)
    rw [splice_nest (sz := τ.sz) (by have := Rep.len hz; omega), show i * τ.sz + τ.sz = (i + 1) * τ.sz by rw [Nat.add_mul, Nat.one_mul]]
    simpa [List.append_assoc] using hset

section
variable {P : Program} {C : Cx} {w0 : World} {c0 : C0} {U : Nat → Prop} {E : Env} {a : Act} {w : World} {G : Gh} {ops : List Oper} {g : Option (Nat × Bool)}

/-- A token that is not used yet is one of rows. -/
theorem Inv.bxset (hI : Inv w0 c0 U E a w G) {tk : Nat} (hU : ¬ U tk) : Inv w0 c0 (fun u => U u ∨ u = tk) E a w { G with bx := fun u => if u = tk then false else G.bx u } := by
  refine hI.change (ts := []) (fun _ _ _ => by simp) (fun b _ _ => ⟨rfl, rfl⟩) (fun t ht => ⟨rfl, if_neg (fun e : t = tk => hU (e ▸ ht))⟩) (fun _ h => .inl h) (fun b hb => .inl (hI.colU b hb)) hI.lt hI.fresh hI.frame (fun _ h => h) (Nat.le_refl _) rfl rfl rfl

/-- The row of b is told anew; the rows of some tokens are handed over to it. -/
theorem Inv.elemW (hI : Inv w0 c0 U E a w G) {ts : List Nat} {b : Nat} {e : Ty} {l : List e.den} {m : M} {w' : World} (hb3 : 3 ≤ b) (hts : ∀ c ∈ ts, 3 ≤ c ∧ Good U G c) (hb : Good U G b) (hm : ∀ c ∈ m.cols, Good U G c)
    (hnew : RowOk w' (G.give ts b (G.hdr b)) e l (G.hdr b) m) (hag : ∀ k, (G.give ts b (G.hdr b)).col k ≠ b → w'.heap[k]? = w.heap[k]?)
    (hfr : ∀ k, (G.give ts b (G.hdr b)).col k = b → ∃ c el, w'.heap[k]? = some (.cells c el (0, 0))) (size : w.heap.size = w'.heap.size) (os : w'.os = w.os) (tape : w'.tape = w.tape) (output : w'.output = w.output) :
    Inv w0 c0 U (E.elem ts b e l m) a w' (G.give ts b (G.hdr b)) := by
  have hI1 := hI.giveM (ts := ts) (t := b) (v := G.hdr b) hb3 hts hb.2.1 rfl hb.2.2
  have hI2 := hI1.map (killSha_ok (w := w) b) hI1.colU (fun b => ⟨fun h => h, fun _ => rfl, fun _ => rfl⟩)
  have hI3 := hI2.setRow (m := m) (y := l) (w' := w') (e := e) (b := b) (by simpa [Gh.give] using hnew) (by simp [Gh.give]) hb3 hag (fun s => ?_) (fun c hc => ?_) hfr size os tape output
  · simpa only [Env.elem, List.map_map, Function.comp_def, SV.killSha, SV.give] using hI3
  · have := getD_map (L := E.s.map (SV.give ts b)) (T := SV.killSha b) rfl s
    show SV.clear b ((List.map (SV.killSha b) (E.s.map (SV.give ts b))).getD s .no)
    rw [this]
    exact SV.killSha_clear b _
  · obtain ⟨p1, p2, p3⟩ := hm c hc
    refine ⟨p1, p2, ?_⟩
    simp only [Gh.give]; split
    · rfl
    · exact p3

/-- What is told of a row all of whose blocks have its colour. -/
theorem row_all {e : Ty} {l : List e.den} {v : Value} {b : Nat} {hs : List Nat} (h : RowOk w G e l v (.row b hs true)) (hhs : hs.all (· = b) = true) {bk of n cap : Nat} (hv : v = .slice (some ⟨bk, of, none⟩) n cap) (hn : 0 < n) :
    n = l.length ∧ l.length ≤ cap ∧ ∃ c el fz Bs, w.heap[bk]? = some (.cells c el fz) ∧ of + cap * e.sz ≤ c.size ∧ RepL (Rep w e) l ((c.toList.drop of).take (l.length * e.sz)) Bs ∧ (bk :: Bs).Nodup ∧ G.col bk = b ∧ ∀ x ∈ Bs, G.col x = b := by
  obtain ⟨_, _, B, hB, hc⟩ := h
  rcases hB with ⟨⟨ao, e0⟩, hl0, _⟩ | ⟨b', of', cap', c, el, fz, Bs, e0, hcap, hh, hsz, rfl, hl⟩
  · rw [hv] at e0; cases e0; omega
  · rw [hv] at e0
    simp only [Value.slice.injEq, Option.some.injEq, Addr.mk.injEq, and_true] at e0
    obtain ⟨⟨rfl, rfl⟩, rfl, rfl⟩ := e0
    obtain ⟨k1, k2, k3, k4⟩ := hc _ _ rfl
    simp only [List.all_eq_true, decide_eq_true_eq] at hhs
    exact ⟨rfl, hcap, c, el, fz, Bs, hh, hsz, hl, List.nodup_cons.2 ⟨k2, k4 rfl⟩, k1, fun x hx => hhs _ (k3 x hx)⟩

theorem splice_self {q : Nat} {cs : List Value} {v : Value} (h : cs[q]? = some v) : splice q [v] cs = cs := by
  obtain ⟨hq, rfl⟩ := List.getElem?_eq_some_iff.1 h
  unfold splice
  simp only [List.length_singleton, List.append_assoc, List.singleton_append]
  rw [← List.drop_eq_getElem_cons hq, List.take_append_drop]

/-- The slice that stands at a place of an element of an own row. -/
theorem nst_of_row {e σ : Ty} {l : List e.den} {b : Nat} {hs : List Nat} {bk of n cap : Nat} {i : Int} {p : List Bool} (h : RowOk w G e l (G.hdr b) (.row b hs true)) (hhs : hs.all (· = b) = true) (hv : G.hdr b = .slice (some ⟨bk, of, none⟩) n cap)
    (h0 : 0 ≤ i) (hn : i < n) (hs : e.sub p = some (.sl σ)) (hI : Inv w0 c0 U E a w G) :
    ∃ c el z v, w.heap[bk]? = some (.cells c el (0, 0)) ∧ of + i.toNat * e.sz + e.off p + 1 ≤ c.size ∧ (c.toList.drop (of + i.toNat * e.sz + e.off p)).take 1 = [v] ∧ RowOk w G σ z v (.nst b e i (e.off p) p true) := by
  obtain ⟨rfl, hcap, c, el, fz, Bs, hh, hsz, hl, hnd, hcb, hcB⟩ := row_all h hhs hv (by omega)
  obtain ⟨c', el', hfr⟩ := hI.fresh bk (by rw [hcb]; exact h.1)
  rw [hfr] at hh
  simp only [Option.some.injEq, Obj.cells.injEq] at hh
  obtain ⟨rfl, rfl, rfl⟩ := hh
  have hi : i.toNat < l.length := by omega
  obtain ⟨f, z, Ba, Bo, Bb, q1, rfl, q3, q4, q5, q6⟩ := RepL.place hl hi hs
  have hmul : l.length * e.sz ≤ cap * e.sz := Nat.mul_le_mul_right _ hcap
  have hlen := RepL.len (sz := e.sz) (fun x c B h => Rep.len h) hl
  simp only [Ty.sz] at q3 q4
  obtain ⟨v, hv1, hv2⟩ := q3
  have hget : ((c'.toList.drop of).take (l.length * e.sz))[i.toNat * e.sz + e.off p]? = some v := by
    have := congrArg List.head? hv1
    rw [List.head?_take, List.head?_drop] at this
    simpa using this
  have hpart := q6 w z [v] Bo (fun _ _ => rfl) ⟨v, rfl, hv2⟩
  rw [q1] at hpart
  refine ⟨c', el', z, v, hfr, by omega, ?_, ⟨Bo, hv2, fun x hx => hcB x (by simp [hx])⟩, hs, rfl, h.1, h0, bk, of, l.length, cap, c', el', l, _, hv, hcap, hcb, hfr, hsz, hn, ?_, rfl, hpart, hnd, hcB, fun _ => hget⟩
  · rw [List.drop_take, List.take_take, List.drop_drop, Nat.min_eq_left (by omega)] at hv1
    rw [show of + i.toNat * e.sz + e.off p = of + (i.toNat * e.sz + e.off p) by omega]
    exact hv1
  · have hp := sub_off hs
    simpa only [Ty.sz] using hp


/-- What is known where a slice stands at a place of an element of a row, and what comes of another one there. -/
theorem nst_open {e0 e : Ty} {L : List e0.den} {l : List e.den} {b : Nat} {hs : List Nat} {i : Int} {off : Nat} {p : List Bool} {vx : Value} (hx : RowOk w G e l vx (.nst b e0 i off p true)) (hrow : RowOk w G e0 L (G.hdr b) (.row b hs true)) :
    3 ≤ b ∧ ∃ (blk of n cap : Nat) (c : Array Value) (el : TypeId) (f : List e.den → List e0.den) (Ba Bo Bb : List Nat), G.hdr b = .slice (some ⟨blk, of, none⟩) n cap ∧ n ≤ cap ∧ G.col blk = b ∧ w.heap[blk]? = some (.cells c el (0, 0)) ∧ of + cap * e0.sz ≤ c.size ∧
      (blk :: (Ba ++ Bo ++ Bb)).Nodup ∧ (∀ x ∈ Ba ++ Bo ++ Bb, G.col x = b) ∧ RepS w e.sz (Rep w e) l vx Bo ∧ f l = L ∧ L.length = n ∧
      (∀ (w' : World) (l' : List e.den) (v' : Value) (B' : List Nat), (∀ k ∈ Ba ++ Bb, w'.heap[k]? = w.heap[k]?) → RepS w' e.sz (Rep w' e) l' v' B' →
        RepL (Rep w' e0) (f l') (splice (i.toNat * e0.sz + off) [v'] ((c.toList.drop of).take (n * e0.sz))) (Ba ++ B' ++ Bb)) ∧ (∀ l', (f l').length = n) ∧
      splice (i.toNat * e0.sz + off) [vx] ((c.toList.drop of).take (n * e0.sz)) = (c.toList.drop of).take (n * e0.sz) ∧ i < n ∧ 0 ≤ i ∧ off + 1 ≤ e0.sz ∧ e0.sub p = some (.sl e) ∧ e0.off p = off := by
  obtain ⟨⟨B, hB, hc⟩, hsub, hoff, h3, hi0, blk, of, n, cap, c, el, L0, Bs, g1, g2, g3, g4, g5, g6, g7, g8, g9, g10, g11, g12⟩ := hx
  have hself := splice_self (g12 rfl)
  rw [hself] at g9
  have hLn : L.length = n ∧ RepL (Rep w e0) L ((c.toList.drop of).take (n * e0.sz)) Bs := by
    obtain ⟨_, _, B', hB', _⟩ := hrow
    rw [g1] at hB'
    rcases hB' with ⟨⟨ao, e1⟩, hl0, _⟩ | ⟨b', of', cap', c', el', fz, Bs', e1, hcap, hh, hsz, _, hl⟩
    · cases e1; omega
    · simp only [Value.slice.injEq, Option.some.injEq, Addr.mk.injEq, and_true] at e1
      obtain ⟨⟨rfl, rfl⟩, rfl, rfl⟩ := e1
      rw [g4] at hh
      simp only [Option.some.injEq, Obj.cells.injEq] at hh
      obtain ⟨rfl, rfl, rfl⟩ := hh
      have := RepL.det (sz := e0.sz) (fun x c B h => Rep.len h) (fun x c B h => Rep.len h) (fun x x' c B B' h h' => Rep.det h h') g9 hl (by omega)
      subst this
      exact ⟨rfl, g9⟩
  obtain ⟨hLn, hLr⟩ := hLn
  obtain ⟨f, z, Ba, Bo, Bb, q1, rfl, q3, q4, q5, q6⟩ := RepL.place hLr (i := i.toNat) (by omega) hsub
  simp only [Ty.sz] at q3 q4
  rw [hoff] at q3 q6
  have hvx : (((c.toList.drop of).take (n * e0.sz)).drop (i.toNat * e0.sz + off)).take 1 = [vx] := by
    obtain ⟨hq, hv⟩ := List.getElem?_eq_some_iff.1 (g12 rfl)
    rw [List.drop_eq_getElem_cons hq, hv]; rfl
  rw [hvx] at q3
  have hz : z = l := Rep.det q3 (show Rep w (.sl e) l [vx] B from ⟨vx, rfl, hB⟩)
  subst hz
  obtain ⟨v', hv', hS⟩ := q3
  simp only [List.cons.injEq, and_true] at hv'
  subst hv'
  exact ⟨h3, blk, of, n, cap, c, el, f, Ba, Bo, Bb, g1, g2, g3, g4, g5, g10, g11, hS, q1, hLn, fun w' l' v' B' hk hS' => q6 w' l' [v'] B' hk ⟨v', rfl, hS'⟩, fun l' => (q5 l').trans hLn, hself, g6, hi0, g7, hsub, hoff⟩

theorem Good.mono {U' : Nat → Prop} {c : Nat} (h : Good U G c) (hU : ∀ u, U u → U' u) : Good U' G c := ⟨h.1, hU _ h.2.1, h.2.2⟩

/-- An append to a slice within an element of an own row. -/
theorem nst_app (hC : CxTy P C) (hI : Inv w0 c0 U E a w G) {tk : Nat} (h3 : 3 ≤ tk) (hU : ¬ U tk) {o : Oper} {c : Call}
    (ho : o.op = .call c) (hb : c.callee = .builtin .append) {x y : Operand} {t : TypeId} (hargs : c.args = #[x, y]) (htys : c.argTypes = #[t, t]) {ti : TI} (hti : C.tt t = some ti) {e e0 : Ty} (hτ : ti.τ = .sl e)
    {l l2 : List e.den} {L : List e0.den} {b : Nat} {hs ys : List Nat} {i : Int} {off : Nat} {p : List Bool} {m' : M}
    (hx : RowOk w G e l (a.eval x) (.nst b e0 i off p true)) (hy : RowOk w G e l2 (a.eval y) m') (hgy : ∀ c ∈ m'.cols, Good U G c) (hys : m'.own = some ys) (hby : b ∉ ys)
    (hrow : RowOk w G e0 L (G.hdr b) (.row b hs true)) (hgb : Good U G b) (hlen : l.length + l2.length < 4294967296) :
    Yields w0 c0 (fun u => U u ∨ u = tk) (E.elem (tk :: ys) b e0 L (.row b [b] true)) a ((execOp a.eval o).run P w) (.d ⟨.sl e, l ++ l2, .sl (.nst b e0 i off p false)⟩) := by
  obtain ⟨hb3, blk, of, n, cap, cc, el, f, Ba, Bo, Bb, q1, q2, q3, q4, q5, q6, q7, hBx, q8, q9, q10, q11, q12, q13, q14, q15, q16, q17⟩ := nst_open hx hrow
  have hT := (hC.tt _ ti hti).2
  rw [hτ] at hT
  obtain ⟨hu, hel⟩ := hT
  obtain ⟨By, hBy, hny, hcy⟩ := hy.own hys
  have hys3 : ∀ c ∈ ys, 3 ≤ c := fun c hc => Sh.own_ge (τ := .sl e) (x := l2) (sh := .sl m') (cs := [a.eval y]) ⟨_, rfl, hy⟩ hys c hc
  have hgys : ∀ c ∈ ys, Good U G c := fun c hc => hgy c (M.own_sub hys c hc)
  have hbtk : b ≠ tk := fun e => hU (e ▸ hgb.2.1)
  have hytk : ∀ c ∈ ys, c ≠ tk := fun c hc e => hU (e ▸ (hgys c hc).2.1)
  have hrun : ∀ {v' : Value} {w' : World}, ((Builtin.append_ #[t, t] o.type #[a.eval x, a.eval y]).run P w = .ok v' w') → (execOp a.eval o).run P w = .ok (.value v') w' := by
    intro v' w' hr
    simp only [execOp, ho]
    simp [resolve, hb, invoke, builtin, hargs, htys, hr]
  obtain ⟨xs, hcx, hlx, hbx⟩ := hBx.cells
  obtain ⟨ysc, hcyc, hly, _⟩ := hBy.cells
  have hBoIn : ∀ z ∈ Bo, G.col z = b := fun z hz => q7 z (by simp [hz])
  have hfr : ∀ ad k cap, a.eval x = .slice (some ad) k cap → 0 < cap → ∃ b off, ad = ⟨b, off, none⟩ ∧ ∃ c el', w.heap[b]? = some (.cells c el' (0, 0)) ∧ off + cap * e.sz ≤ c.size := by
    intro ad k cap hv hc0
    obtain ⟨b', off', had, hB, _, c', el', fz, hh, hsz, _⟩ := hbx ad k cap hv hc0
    obtain ⟨c2, el2, hf⟩ := hI.fresh b' (by rw [hBoIn b' (by rw [hB]; simp)]; exact hb3)
    rw [hf] at hh; cases hh
    exact ⟨b', off', had, _, _, hf, hsz⟩
  -- the blocks of what is appended lie apart
  have hdis : ∀ z ∈ By, z ≠ blk ∧ z ∉ Ba ++ Bo ++ Bb := fun z hz => by
    have hcz := hcy z hz
    refine ⟨fun e => hby (by rw [e, q3] at hcz; exact hcz), fun hin => hby (by rw [q7 z hin] at hcz; exact hcz)⟩
  have hBo1 : ∀ z ∈ Bo.drop 1, z ∈ Bo := fun z hz => List.mem_of_mem_drop hz
  have hBy1 : ∀ z ∈ By.drop 1, z ∈ By := fun z hz => List.mem_of_mem_drop hz
  rw [List.nodup_cons] at q6
  obtain ⟨q6a, q6b⟩ := q6
  have nd3 := q6b
  rw [List.nodup_append, List.nodup_append] at nd3
  obtain ⟨⟨nA, nO, dAO⟩, nB, dAOB⟩ := nd3
  -- the blocks behind it: those of the element but for the slice, and those of the new slice
  have ndNew : ∀ h : Nat, h ∉ Ba ++ Bb → h ≠ blk → h ∉ Bo.drop 1 → h ∉ By.drop 1 → (blk :: (Ba ++ (h :: (Bo.drop 1 ++ By.drop 1)) ++ Bb)).Nodup := by
    intro h h1 h2 h4 h5
    simp only [List.mem_append, not_or] at h1
    have hBoN : (Bo.drop 1).Nodup := nO.sublist (List.drop_sublist _ _)
    have hByN : (By.drop 1).Nodup := hny.sublist (List.drop_sublist _ _)
    rw [List.nodup_cons, List.nodup_append, List.nodup_append, List.nodup_cons, List.nodup_append]
    refine ⟨?_, ⟨nA, ⟨fun hin => (List.mem_append.1 hin).elim h4 h5, hBoN, hByN, fun x hx y hy e => ?_⟩, fun x hx y hy e => ?_⟩, nB, fun x hx y hy e => ?_⟩
    · simp only [List.mem_append, List.mem_cons, not_or] at q6a ⊢
      exact ⟨⟨q6a.1.1, fun e => h2 e.symm, fun hin => q6a.1.2 (hBo1 _ hin), fun hin => (hdis _ (hBy1 _ hin)).1 rfl⟩, q6a.2⟩
    · subst e; exact (hdis x (hBy1 x hy)).2 (by simp [hBo1 x hx])
    · subst e
      rcases List.mem_cons.1 hy with rfl | hy
      · exact h1.1 hx
      · rcases List.mem_append.1 hy with hy | hy
        · exact dAO x hx x (hBo1 x hy) rfl
        · exact (hdis x (hBy1 x hy)).2 (by simp [hx])
    · subst e
      rcases List.mem_append.1 hx with hx | hx
      · exact dAOB x (by simp [hx]) x hy rfl
      · rcases List.mem_cons.1 hx with rfl | hx
        · exact h1.2 hy
        · rcases List.mem_append.1 hx with hx | hx
          · exact dAOB x (by simp [hBo1 x hx]) x hy rfl
          · exact (hdis x (hBy1 x hx)).2 (by simp [hy])
  -- the end of each case
  have fin : ∀ {G0 : Gh} {w1 w' : World} {v' : Value} {Bn : List Nat}, Inv w0 c0 (fun u => U u ∨ u = tk) E a w1 G0 → (∀ c, U c → G0.hdr c = G.hdr c ∧ G0.bx c = G.bx c) → G0.bx tk = false → (∀ z, z < w.heap.size → G0.col z = G.col z) →
      (execOp a.eval o).run P w = .ok (.value v') w' → w1.heap.size = w'.heap.size → w'.os = w1.os → w'.tape = w1.tape → w'.output = w1.output →
      (∀ k, k ∉ Bo → w'.heap[k]? = w1.heap[k]?) → (∀ k ∈ blk :: (Ba ++ Bb), w'.heap[k]? = w.heap[k]?) → (∀ k ∈ Bo, ∃ c el, w'.heap[k]? = some (.cells c el (0, 0))) → RepS w' e.sz (Rep w' e) l (a.eval x) Bo →
      RepS w' e.sz (Rep w' e) (l ++ l2) v' Bn → (blk :: (Ba ++ Bn ++ Bb)).Nodup → (∀ z ∈ Bn, z ∈ Bo ∨ z ∈ By ∨ G0.col z = tk) →
      Yields w0 c0 (fun u => U u ∨ u = tk) (E.elem (tk :: ys) b e0 L (.row b [b] true)) a ((execOp a.eval o).run P w) (.d ⟨.sl e, l ++ l2, .sl (.nst b e0 i off p false)⟩) := by
    intro G0 w1 w' v' Bn hI1 hU0 hbx0 hcol0 hr hsz hos htp hout hag hkeep hfresh hS0 hS1 hnd hBn
    have hgb0 : Good (fun u => U u ∨ u = tk) G0 b := ⟨hgb.1, .inl hgb.2.1, by rw [(hU0 b hgb.2.1).2]; exact hgb.2.2⟩
    have hts : ∀ c ∈ tk :: ys, 3 ≤ c ∧ Good (fun u => U u ∨ u = tk) G0 c := by
      intro c hc
      rcases List.mem_cons.1 hc with rfl | hc
      · exact ⟨h3, by omega, .inr rfl, hbx0⟩
      · have := hgys c hc
        exact ⟨hys3 c hc, this.1, .inl this.2.1, by rw [(hU0 c this.2.1).2]; exact this.2.2⟩
    have hhdr : G0.hdr b = G.hdr b := (hU0 b hgb.2.1).1
    have hltx : ∀ z ∈ blk :: (Ba ++ Bo ++ Bb), z < w.heap.size := by
      intro z hz
      have hz3 : G.col z = b := by
        rcases List.mem_cons.1 hz with rfl | hz
        · exact q3
        · exact q7 z hz
      exact hI.lt z (by omega)
    have hlty : ∀ z ∈ By, z < w.heap.size := hBy.bounds
    have hbn : b ∉ tk :: ys := by simp [hbtk, hby]
    have hcolB : ∀ z ∈ blk :: (Ba ++ Bo ++ Bb), (G0.give (tk :: ys) b (G0.hdr b)).col z = b := by
      intro z hz
      have hz3 : G.col z = b := by
        rcases List.mem_cons.1 hz with rfl | hz
        · exact q3
        · exact q7 z hz
      simp only [Gh.give, hcol0 z (hltx z hz), hz3]
      rw [if_neg hbn]
    have hcolN : ∀ z ∈ Bn, (G0.give (tk :: ys) b (G0.hdr b)).col z = b := by
      intro z hz
      rcases hBn z hz with h | h | h
      · exact hcolB z (by simp [h])
      · simp only [Gh.give, hcol0 z (hlty z h)]
        rw [if_pos (List.mem_cons_of_mem _ (hcy z h))]
      · simp only [Gh.give, h]
        rw [if_pos (by simp)]
    have hAB : ∀ k ∈ Ba ++ Bb, w'.heap[k]? = w.heap[k]? := fun k hk => hkeep k (List.mem_cons_of_mem _ hk)
    have hblk : w'.heap[blk]? = some (.cells cc el (0, 0)) := (hkeep blk (by simp)).trans q4
    have hrowL : RepL (Rep w' e0) L ((cc.toList.drop of).take (n * e0.sz)) (Ba ++ Bo ++ Bb) := by
      have := q10 w' l (a.eval x) Bo hAB hS0
      rw [q8, q12] at this
      exact this
    have hI2 := hI1.elemW (ts := tk :: ys) (b := b) (e := e0) (l := L) (m := .row b [b] true) (w' := w') hb3 hts hgb0 (fun c hc => by simp only [M.cols, List.mem_cons, List.not_mem_nil, or_false, or_self] at hc; subst hc; exact hgb0) ?_ ?_ ?_ hsz hos htp hout
    · refine ⟨v', w', _, hr, hI2, ⟨[v'], rfl, v', rfl, ⟨Bn, hS1, hcolN⟩, q16, q17, hb3, q14, blk, of, n, cap, cc, el, f (l ++ l2), Ba ++ Bn ++ Bb, by simp [Gh.give, hhdr, q1], q2, hcolB blk (by simp), hblk, q5, q13, q15, q11 _, q10 w' (l ++ l2) v' Bn hAB hS1, hnd, fun z hz => ?_, by simp⟩, Ment.d (fun c hc => ?_), by rintro _ _ ⟨⟩⟩
      · simp only [List.mem_append] at hz
        rcases hz with (hz | hz) | hz
        · exact hcolB z (by simp [hz])
        · exact hcolN z hz
        · exact hcolB z (by simp [hz])
      · simp only [Sh.cols, M.cols, List.mem_cons, List.not_mem_nil, or_false] at hc
        subst hc
        exact ⟨hgb0.1, hgb0.2.1, by simp [Gh.give]⟩
    · rw [hhdr]
      refine ⟨hb3, by simp [Gh.give], blk :: (Ba ++ Bo ++ Bb), ?_, ?_⟩
      · rw [q1]
        refine .inr ⟨blk, of, cap, cc, el, (0, 0), Ba ++ Bo ++ Bb, by rw [q9], by rw [q9]; exact q2, hblk, q5, rfl, by rw [q9]; exact hrowL⟩
      · rintro h Bs ⟨⟩
        have hcolB' := hcolB
        rw [hhdr] at hcolB'
        exact ⟨hcolB' blk (by simp), q6a, fun z hz => by simp [hcolB' z (List.mem_cons_of_mem _ hz)], fun _ => q6b⟩
    · intro k hk
      by_cases hin : k ∈ Bo
      · exact absurd (hcolB k (by simp [hin])) hk
      · exact hag k hin
    · intro k hk
      by_cases hin : k ∈ Bo
      · exact hfresh k hin
      · rw [hag k hin]
        refine hI1.fresh k ?_
        simp only [Gh.give] at hk
        split at hk
        · rename_i h; exact (hts _ h).1
        · rw [hk]; exact hb3
  have hBoFr : ∀ k ∈ Bo, ∃ c el, w.heap[k]? = some (.cells c el (0, 0)) := fun k hk => hI.fresh k (by rw [hBoIn k hk]; exact hb3)
  have hI0 := hI.bxset (tk := tk) hU
  rcases run_app (ty := o.type) hu hel hcx hcyc (RepL.cell1 hly) hlen hfr with ⟨hm0, hr⟩ | ⟨h, off2, cap2, hv, hcap, hc0, hr⟩ | ⟨cap2, rest, hcap, hsz, hr⟩
  · -- nothing
    have hl2 : l2 = [] := List.length_eq_zero_iff.1 hm0
    subst hl2
    refine fin (Bn := Bo) hI0 (fun c hc => ⟨rfl, if_neg (fun e : c = tk => hU (e ▸ hc))⟩) (by simp) (fun _ _ => rfl) (hrun hr) rfl rfl rfl rfl (fun _ _ => rfl) (fun _ _ => rfl) hBoFr hBx (by simpa using hBx) (List.nodup_cons.2 ⟨q6a, q6b⟩) (fun z hz => .inl hz)
  · -- there is room
    obtain ⟨h0, off0, had, c2, el2, hh, hsz⟩ := hfr _ _ cap2 hv hc0
    cases had
    obtain ⟨h1, off1, had, hB, _, c', el', fz, hh', _, hxs⟩ := hbx _ _ cap2 hv hc0
    cases had
    rw [hh] at hh'; cases hh'
    have hyl := hcyc.1
    have hxl := hcx.1
    have hmul : (l.length + l2.length) * e.sz ≤ cap2 * e.sz := Nat.mul_le_mul_right _ hcap
    rw [Nat.add_mul] at hmul
    have hrow' := setCells_row h (el := el2) ysc (off2 + l.length * e.sz) w c2 hh (by omega)
    have hhBo : h ∈ Bo := by rw [hB]; simp
    have hhN : h ∉ Bo.drop 1 := by
      have := nO
      rw [hB, List.nodup_cons] at this
      exact this.1
    have hhAB : h ∉ Ba ++ Bb := by
      intro hin
      rcases List.mem_append.1 hin with hin | hin
      · exact dAO h hin h hhBo rfl
      · exact dAOB h (by simp [hhBo]) h hin rfl
    have hhblk : h ≠ blk := by
      rintro rfl
      simp only [List.mem_append, not_or] at q6a
      exact q6a.1.2 hhBo
    have hhBy : h ∉ By := fun hin => (hdis h hin).2 (by simp [hhBo])
    have hhBy1 : h ∉ By.drop 1 := fun hin => hhBy (hBy1 h hin)
    have hother : ∀ k, k ≠ h → (w.setCells h (off2 + l.length * e.sz) ysc).heap[k]? = w.heap[k]? := fun k hk => setCells_other h _ _ w k hk
    have htl : (c2.toList.take (off2 + l.length * e.sz)).length = off2 + l.length * e.sz := by simp; omega
    have hpre : ((c2.toList.take (off2 + l.length * e.sz) ++ ysc ++ c2.toList.drop (off2 + l.length * e.sz + ysc.length)).drop off2).take (l.length * e.sz) = xs := by
      rw [List.append_assoc, List.drop_append_of_le_length (by omega), List.take_append_of_le_length (by simp; omega), List.drop_take, hxs, List.take_take, Nat.min_eq_left (by omega)]
    have hcells : ((c2.toList.take (off2 + l.length * e.sz) ++ ysc ++ c2.toList.drop (off2 + l.length * e.sz + ysc.length)).drop off2).take ((l ++ l2).length * e.sz) = xs ++ ysc := by
      rw [List.append_assoc, List.drop_append_of_le_length (by omega), List.drop_take, hxs]
      rw [show off2 + l.length * e.sz - off2 = l.length * e.sz by omega]
      rw [← List.append_assoc]
      have hlen1 : (List.take (l.length * e.sz) (List.drop off2 c2.toList) ++ ysc).length = (l ++ l2).length * e.sz := by
        rw [List.length_append, hyl, ← hxs, hxl, List.length_append, Nat.add_mul]
      rw [← hlen1, List.take_left]
    have hlx' : RepL (Rep (w.setCells h (off2 + l.length * e.sz) ysc) e) l xs (Bo.drop 1) := RepL.world (fun z hz => hother z (fun e => hhN (e ▸ hz))) hlx
    have hly' : RepL (Rep (w.setCells h (off2 + l.length * e.sz) ysc) e) l2 ysc (By.drop 1) := RepL.world (fun z hz => hother z (fun e => hhBy1 (e ▸ hz))) hly
    refine fin (Bn := h :: (Bo.drop 1 ++ By.drop 1)) hI0 (fun c hc => ⟨rfl, if_neg (fun e : c = tk => hU (e ▸ hc))⟩) (by simp) (fun _ _ => rfl) (hrun hr) (by rw [setCells_size]) (setCells_env h _ _ w).1 (setCells_env h _ _ w).2.1 (setCells_env h _ _ w).2.2
      (fun k hk => hother k (fun e => hk (e ▸ hhBo))) (fun k hk => hother k (fun e => ?_)) (fun k hk => ?_) ?_ ?_ (ndNew h hhAB hhblk hhN hhBy1) (fun z hz => ?_)
    · subst e
      rcases List.mem_cons.1 hk with hk | hk
      · exact hhblk hk
      · exact hhAB hk
    · by_cases e1 : k = h
      · subst e1; exact ⟨_, _, hrow'⟩
      · rw [hother k e1]; exact hBoFr k hk
    · rw [hv]
      refine .inr ⟨h, off2, cap2, _, el2, (0, 0), Bo.drop 1, rfl, by omega, hrow', ?_, hB, ?_⟩
      · simp; omega
      · show RepL _ _ ((((c2.toList.take (off2 + l.length * e.sz) ++ ysc ++ c2.toList.drop (off2 + l.length * e.sz + ysc.length)).toArray.toList.drop off2).take (l.length * e.sz))) _
        rw [List.toList_toArray, hpre]; exact hlx'
    · refine .inr ⟨h, off2, cap2, _, el2, (0, 0), Bo.drop 1 ++ By.drop 1, by simp, by simpa using hcap, hrow', ?_, rfl, ?_⟩
      · simp; omega
      · show RepL _ _ ((((c2.toList.take (off2 + l.length * e.sz) ++ ysc ++ c2.toList.drop (off2 + l.length * e.sz + ysc.length)).toArray.toList.drop off2).take ((l ++ l2).length * e.sz))) _
        rw [List.toList_toArray, hcells]
        exact RepL.append hlx' hly'
    · rcases List.mem_cons.1 hz with rfl | hz
      · exact .inl hhBo
      · rcases List.mem_append.1 hz with hz | hz
        · exact .inl (hBo1 z hz)
        · exact .inr (.inl (hBy1 z hz))
  · -- a new block
    have hI1 := (hI.drawn (w.drawn + 1)).alloc h3 hU (xs ++ ysc ++ rest).toArray ti.el (.slice (some ⟨w.heap.size, 0, none⟩) (l.length + l2.length) cap2) false
    have hgv2 : ∀ z, z < w.heap.size → (G.add w.heap.size tk (.slice (some ⟨w.heap.size, 0, none⟩) (l.length + l2.length) cap2) false).col z = G.col z := fun z hz => by
      simp [Gh.add, Nat.ne_of_lt hz]
    have hold : ∀ k, k < w.heap.size → (w.drew.alloc (.cells (xs ++ ysc ++ rest).toArray ti.el)).heap[k]? = w.heap[k]? := fun k hk => heap_alloc_old w.drew _ k hk
    have hltx : ∀ z ∈ blk :: (Ba ++ Bo ++ Bb), z < w.heap.size := by
      intro z hz
      have hz3 : G.col z = b := by
        rcases List.mem_cons.1 hz with rfl | hz
        · exact q3
        · exact q7 z hz
      exact hI.lt z (by omega)
    have hlty : ∀ z ∈ By, z < w.heap.size := hBy.bounds
    have hnin : ∀ {z : Nat}, z < w.heap.size → z ≠ w.heap.size := fun h => Nat.ne_of_lt h
    refine fin (Bn := w.heap.size :: (Bo.drop 1 ++ By.drop 1)) hI1 (fun c hc => ?_) (by simp [Gh.add]) hgv2 (hrun hr) rfl rfl rfl rfl (fun _ _ => rfl) (fun k hk => hold k (hltx k ?_)) (fun k hk => ?_) ?_ ?_ (ndNew _ ?_ ?_ ?_ ?_) (fun z hz => ?_)
    · have : c ≠ tk := fun e => hU (e ▸ hc)
      simp [Gh.add, this]
    · simp only [List.mem_cons, List.mem_append] at hk ⊢
      rcases hk with hk | hk | hk <;> simp [hk]
    · rw [hold k (hltx k (by simp [hk]))]; exact hBoFr k hk
    · exact RepS.mono (fun z hz => hold z (hltx z (by simp [hz]))) hBx
    · refine .inr ⟨w.heap.size, 0, cap2, _, ti.el, (0, 0), Bo.drop 1 ++ By.drop 1, by simp, by simpa using hcap, heap_alloc_new _ _, by simpa using hsz, rfl, ?_⟩
      have hxl := hcx.1
      have hyl := hcyc.1
      have hcells : (((xs ++ ysc ++ rest).toArray.toList.drop 0).take ((l ++ l2).length * e.sz)) = xs ++ ysc := by
        have hlen1 : (xs ++ ysc).length = (l ++ l2).length * e.sz := by rw [List.length_append, hyl, hxl, List.length_append, Nat.add_mul]
        simp only [List.drop_zero]
        rw [← hlen1, List.take_left]
      rw [hcells]
      exact RepL.append (RepL.world (w := w) (fun z hz => hold z (hltx z (by simp [hBo1 z hz]))) hlx) (RepL.world (w := w) (fun z hz => hold z (hlty z (hBy1 z hz))) hly)
    · intro hin; exact Nat.lt_irrefl _ (hltx _ (by simp only [List.mem_cons, List.mem_append] at hin ⊢; rcases hin with h | h <;> simp [h]))
    · exact fun e => Nat.lt_irrefl _ (hltx _ (by simp [e]))
    · exact fun hin => Nat.lt_irrefl _ (hltx _ (by simp [hBo1 _ hin]))
    · exact fun hin => Nat.lt_irrefl _ (hlty _ (hBy1 _ hin))
    · rcases List.mem_cons.1 hz with rfl | hz
      · exact .inr (.inr (by simp [Gh.add]))
      · rcases List.mem_append.1 hz with hz | hz
        · exact .inl (hBo1 z hz)
        · exact .inr (.inl (hBy1 z hz))


/-- The store behind such an append. -/
theorem nst_store (hC : CxTy P C) (hI : Inv w0 c0 U E a w G) {o : Oper} {t : TypeId} {x y : Operand} (ho : o.op = .store t x y) {ti : TI} (hti : C.tt t = some ti) {σ e : Ty} (hτ : ti.τ = .sl σ)
    {l : List e.den} {z : List σ.den} {b : Nat} {hs : List Nat} {i : Int} {off : Nat} {p : List Bool} {fr : Bool} {bk of n cap : Nat} {r : e.den × Sh}
    (hx : RowOk w G σ z (a.eval y) (.nst b e i off p fr)) (hrow : RowOk w G e l (G.hdr b) (.row b hs true)) (hhs : hs.all (· = b) = true) (hgb : Good U G b)
    (k2 : G.hdr b = .slice (some ⟨bk, of, none⟩) n cap) (k5 : a.eval x = .pointer (some ⟨bk, of + i.toNat * e.sz + off, none⟩))
    (hr : putV e (l.getD i.toNat e.dflt) (shOf e (.sha [])) p ⟨.sl σ, z, .sl (.sha [])⟩ = some r) :
    ∃ w' G', (execOp a.eval o).run P w = .ok .skip w' ∧ Inv w0 c0 U (E.elem [] b e (l.set i.toNat r.1) (.row b [b] true)) a w' G' := by
  obtain ⟨⟨B, hB, hc⟩, hsub, hoff, h3, hi0, blk, of', n', cap', c, el, L0, Bs, g1, g2, g3, g4, g5, g6, g7, g8, g9, g10, g11, g12⟩ := hx
  rw [k2] at g1
  simp only [Value.slice.injEq, Option.some.injEq, Addr.mk.injEq, and_true] at g1
  obtain ⟨⟨rfl, rfl⟩, rfl, rfl⟩ := g1
  obtain ⟨hn, hcap, c', el', fz, Bs0, hh, hsz, hl, hnd, hcb, hcB⟩ := row_all hrow hhs k2 (by omega)
  rw [g4] at hh
  simp only [Option.some.injEq, Obj.cells.injEq] at hh
  obtain ⟨rfl, rfl, rfl⟩ := hh
  have hi : i.toNat < l.length := by omega
  have hget : l[i.toNat]? = some (l.getD i.toNat e.dflt) := by
    rw [List.getD_eq_getElem?_getD, List.getElem?_eq_getElem hi]; rfl
  obtain ⟨B1, Bx, B2, rfl, hx1, hx2, hx3⟩ := RepL.get (sz := e.sz) (fun x c B h => Rep.len h) hl hget
  obtain ⟨Ba, Bo, Bb, rfl, hput, hle⟩ := Rep.put (v := ⟨.sl σ, z, .sl (.sha [])⟩) (cv := [a.eval y]) hr hx1 (show Rep w (.sl σ) z [a.eval y] B from ⟨_, rfl, hB⟩)
  have hset := RepL.set (sz := e.sz) hi hput hx2 hx3
  have hmul : (i.toNat + 1) * e.sz ≤ l.length * e.sz := Nat.mul_le_mul_right _ hi
  have hmul2 : l.length * e.sz ≤ cap * e.sz := Nat.mul_le_mul_right _ hcap
  rw [Nat.add_mul, Nat.one_mul] at hmul
  rw [hoff] at hput hset hle
  have hsp : splice (i.toNat * e.sz + off) [a.eval y] ((c.toList.drop of).take (l.length * e.sz)) =
      ((c.toList.drop of).take (l.length * e.sz)).take (i.toNat * e.sz) ++ splice off [a.eval y] ((((c.toList.drop of).take (l.length * e.sz)).drop (i.toNat * e.sz)).take e.sz) ++ ((c.toList.drop of).take (l.length * e.sz)).drop ((i.toNat + 1) * e.sz) := by
    rw [splice_nest (sz := e.sz) (by simpa using g7), Nat.add_mul, Nat.one_mul]
  rw [← hsp] at hset
  rw [← hn] at hset
  have hL : L0 = l.set i.toNat r.1 := RepL.det (sz := e.sz) (fun x c B h => Rep.len h) (fun x c B h => Rep.len h) (fun x x' c B B' h h' => Rep.det h h') g9 hset (by simp; omega)
  subst hL
  have hO : of + i.toNat * e.sz + off + 1 ≤ c.size := by omega
  have hrow' := setCells_row bk (el := el) [a.eval y] (of + i.toNat * e.sz + off) w c g4 (by simpa using hO)
  have hT := (hC.tt t ti hti).1
  have hone : (a.eval y).oneCell' = true := hB.one
  have hrun := run_storeAt (P := P) (t := t) (τ := ti.τ) hT g4 (o := of + i.toNat * e.sz + off) (cs := [a.eval y]) (by rw [hτ]; simpa [Ty.sz] using hO) (by rw [hτ]; rfl) (by simpa using hone) k5
  have hother : ∀ k, k ≠ bk → (w.setCells bk (of + i.toNat * e.sz + off) [a.eval y]).heap[k]? = w.heap[k]? := fun k hk => setCells_other bk _ _ w k hk
  rw [List.nodup_cons] at g10
  have hcol : ∀ k, (G.give [] b (G.hdr b)).col k = G.col k := fun k => by simp [Gh.give]
  have hI2 := hI.elemW (ts := []) (b := b) (e := e) (l := l.set i.toNat r.1) (m := .row b [b] true) (w' := w.setCells bk (of + i.toNat * e.sz + off) [a.eval y]) h3 (by simp) hgb
    (fun c hc => by simp only [M.cols, List.mem_cons, List.not_mem_nil, or_false, or_self] at hc; subst hc; exact hgb) ?_ (fun k hk => hother k (fun e1 => hk (by rw [hcol, e1, g3]))) (fun k hk => ?_)
    (by rw [setCells_size]) (setCells_env _ _ _ w).1 (setCells_env _ _ _ w).2.1 (setCells_env _ _ _ w).2.2
  · refine ⟨_, _, ?_, hI2⟩
    simp only [execOp, ho]
    have hmk : mkv ti.τ [a.eval y] = a.eval y := by rw [hτ]; rfl
    rw [hmk] at hrun
    simp [hrun]
  · rw [k2]
    refine ⟨h3, by simp [Gh.give], bk :: Bs, .inr ⟨bk, of, cap, _, el, (0, 0), Bs, by simp [hn], by simpa using hcap, hrow', by simp; omega, rfl, ?_⟩, ?_⟩
    · show RepL _ _ ((((c.toList.take (of + i.toNat * e.sz + off) ++ [a.eval y] ++ c.toList.drop (of + i.toNat * e.sz + off + [a.eval y].length)).toArray.toList.drop of).take ((l.set i.toNat r.1).length * e.sz))) _
      rw [List.toList_toArray]
      have hcells : ((splice (of + i.toNat * e.sz + off) [a.eval y] c.toList).drop of).take ((l.set i.toNat r.1).length * e.sz) = splice (i.toNat * e.sz + off) [a.eval y] ((c.toList.drop of).take (n * e.sz)) := by
        rw [splice_drop (by omega) (by simp; omega), splice_take (by simp; omega) (by simp; omega), show of + i.toNat * e.sz + off - of = i.toNat * e.sz + off by omega]
        simp [hn]
      show RepL _ _ (((splice (of + i.toNat * e.sz + off) [a.eval y] c.toList).drop of).take ((l.set i.toNat r.1).length * e.sz)) _
      rw [hcells]
      exact RepL.world (fun k hk => hother k (fun e1 => g10.1 (e1 ▸ hk))) g9
    · rintro h Bs' ⟨⟩
      exact ⟨by simp [Gh.give, g3], g10.1, fun x hx => by simp [Gh.give, g11 x hx], fun _ => g10.2⟩
  · by_cases e1 : k = bk
    · subst e1; exact ⟨_, _, hrow'⟩
    · rw [hother k e1]
      rw [hcol] at hk
      exact hI.fresh k (by rw [hk]; exact h3)


theorem nestOp_ok (hC : CxOk P C) (hI : Inv w0 c0 U E a w G) (hR : RI ops E a.tmps) {tk : Nat} (h3 : 3 ≤ tk) (hU : ∀ u, tk ≤ u → u < tk + 32 → ¬ U u) {o : Oper} {ef : Ef}
    (h : nestOp C ops E.rd tk o = some ef) : EfS P w0 c0 (fun u => U u ∨ (tk ≤ u ∧ u < tk + 32)) E a ((execOp a.eval o).run P w) ef := by
  have hC' := hC.toCxTy
  have hg : Gd ops a.tmps none := by rintro j w' ⟨⟩
  unfold nestOp at h
  split at h
  · -- a load
    rename_i t x ho
    split at h
    · rename_i ti b e i off p τ hti harg
      split at h
      · rename_i l hs nd hrow
        obtain ⟨hc, h⟩ := Option.ite_none_right_eq_some.mp h
        split at h
        · rename_i σ z sh hsub
          simp only [Option.some.injEq] at h
          subst h
          simp only [Bool.and_eq_true, decide_eq_true_eq] at hc
          obtain ⟨⟨⟨⟨rfl, hhs⟩, _⟩, rfl⟩, hsb⟩ := hc
          obtain ⟨h1, _⟩ := arg_ok hI hR hg harg
          obtain ⟨bk, of, n, cap, hb3, k2, k3, k4, k5⟩ := h1
          obtain ⟨⟨vh, hvh⟩, hgood⟩ := hI.findRow hrow
          have hvh0 : vh = G.hdr b := hvh.2.1.symm
          rw [hvh0] at hvh
          have hti2 : ti.τ = .sl σ := by
            have := subV_sub hsub
            rw [hsb] at this
            simpa using this
          rw [hti2] at hsb
          obtain ⟨c, el, z', v, g1, g2, g3, g4⟩ := nst_of_row hvh hhs k2 k3 k4 hsb hI
          have hT := (hC'.tt t ti hti).1
          have hrun : (execOp a.eval o).run P w = .ok (.value v) w := by
            have hl := run_loadVar' hT g1 (o := of + i.toNat * e.sz + e.off p) (by rw [hti2]; exact g2)
            rw [hti2, show (Ty.sl σ).sz = 1 from rfl, g3, show mkv (.sl σ) [v] = v from rfl] at hl
            simp only [execOp, ho]
            refine run_v ?_
            simp only [Instr.loadAt, k5, Instr.sureAddr]
            simpa using hl
          have hz : z' = z := by
            obtain ⟨_, hcap, c2, el2, fz, Bs, hh, hsz, hl, _⟩ := row_all hvh hhs k2 (by omega)
            rw [g1] at hh
            simp only [Option.some.injEq, Obj.cells.injEq] at hh
            obtain ⟨rfl, rfl, rfl⟩ := hh
            have hi : i.toNat < l.length := toNat_lt k3 (by obtain ⟨hn, _⟩ := row_all hvh hhs k2 (by omega); rw [← hn]; exact k4)
            obtain ⟨f, z2, Ba, Bo, Bb, q1, _, q3, q4, _, _⟩ := RepL.place hl hi hsb
            simp only [Ty.sz] at q3 q4
            rw [List.drop_take, List.take_take, List.drop_drop, Nat.min_eq_left (by omega), ← Nat.add_assoc, g3] at q3
            have hget : l[i.toNat]? = some (l.getD i.toNat e.dflt) := by
              rw [List.getD_eq_getElem?_getD, List.getElem?_eq_getElem hi]; rfl
            obtain ⟨B1, Bx, B2, _, hx1, _, _⟩ := RepL.get (sz := e.sz) (fun x c B h => Rep.len h) hl hget
            have hv2 := subV_rep hsub hx1
            obtain ⟨Bv, hv2⟩ := hv2
            have hmul : (i.toNat + 1) * e.sz ≤ l.length * e.sz := Nat.mul_le_mul_right _ hi
            rw [Nat.add_mul, Nat.one_mul] at hmul
            have hpo := sub_off hsb
            simp only [Ty.sz] at hv2 hpo
            rw [List.drop_take, List.take_take, List.drop_drop, Nat.min_eq_left (by omega), List.drop_take, List.take_take, List.drop_drop, Nat.min_eq_left (by omega), ← Nat.add_assoc, g3] at hv2
            obtain ⟨⟨B4, g4, _⟩, _⟩ := g4
            exact Rep.det (show Rep w (.sl σ) z' [v] B4 from ⟨v, rfl, g4⟩) hv2
          subst hz
          exact yields_same (hI.mono (fun u hu => .inl hu)) hrun ⟨[v], rfl, v, rfl, g4⟩ (Ment.d (fun c hc => by
            simp only [Sh.cols, M.cols, List.mem_singleton] at hc
            subst hc
            have := hgood c (by simp)
            exact ⟨this.1, .inl this.2.1, this.2.2⟩)) (by rintro _ _ ⟨⟩)
        · cases h
      · cases h
    · cases h
  · -- a store
    rename_i t x y ho
    split at h
    · rename_i ti b e i off p τ σ z b' e' i' off' p' fr hti harg hv
      split at h
      · rename_i l hs nd hrow
        obtain ⟨hc, h⟩ := Option.ite_none_right_eq_some.mp h
        obtain ⟨r, hr, h⟩ := Option.map_eq_some_iff.mp h
        subst h
        simp only [Bool.and_eq_true, decide_eq_true_eq] at hc
        obtain ⟨⟨⟨⟨⟨⟨⟨⟨⟨rfl, hhs⟩, rfl⟩, rfl⟩, rfl⟩, rfl⟩, hoff⟩, hsb⟩, hστ⟩, hτ⟩ := hc
        intro hcd
        have hii : i = i' := of_decide_eq_true hcd
        subst hii
        obtain ⟨h1, _⟩ := arg_ok hI hR hg harg
        obtain ⟨bk, of, n, cap, hb3, k2, k3, k4, k5⟩ := h1
        obtain ⟨⟨vh, hvh⟩, hgood⟩ := hI.findRow hrow
        have hvh0 : vh = G.hdr b' := hvh.2.1.symm
        rw [hvh0] at hvh
        obtain ⟨m, hm, hx, _, _⟩ := eval_sl hI hR hg hv
        cases hm
        obtain ⟨w', G', q1, q2⟩ := nst_store hC' hI ho hti (hτ.symm.trans hστ.symm) hx hvh hhs (hgood b' (by simp)) k2 k5 hr
        exact .inr ⟨rfl, w', G', q1, q2.mono fun u hu => .inl hu⟩
      · cases h
    · cases h
  · -- an append
    rename_i c ho
    split at h
    · rename_i x y t u hb ha hts
      have hargs : c.args = #[x, y] := Array.ext' (by simpa using ha)
      have htys : c.argTypes = #[t, u] := Array.ext' (by simpa using hts)
      split at h
      · rename_i ti e l b E0 i off p e' l' m' hti hx hy
        split at h
        · rename_i l2 L hs nd ys hl2 hrow hys
          have hcast := castV_ok hl2
          simp only [TV.mk.injEq] at hcast
          obtain ⟨he, hl, _⟩ := hcast
          cases he
          cases hl
          obtain ⟨hc, h⟩ := Option.ite_none_right_eq_some.mp h
          simp only [Option.some.injEq] at h
          subst h
          simp only [Bool.and_eq_true, decide_eq_true_eq, Bool.not_eq_true', List.contains_eq_mem, decide_eq_false_iff_not] at hc
          obtain ⟨⟨⟨⟨rfl, hhs⟩, hby⟩, hτ⟩, rfl⟩ := hc
          intro hcd
          have hlen : l.length + l2.length < 4294967296 := of_decide_eq_true hcd
          obtain ⟨mx, hmx, hrx, _, _⟩ := eval_sl hI hR hg hx
          cases hmx
          obtain ⟨my, hmy, hry, _, hgy⟩ := eval_sl hI hR hg hy
          cases hmy
          obtain ⟨⟨vh, hvh⟩, hgood⟩ := hI.findRow hrow
          have hvh0 : vh = G.hdr b := hvh.2.1.symm
          rw [hvh0] at hvh
          exact .inl ((nst_app hC' hI h3 (hU tk (Nat.le_refl _) (by omega)) ho hb hargs htys hti hτ hrx hry hgy hys hby hvh (hgood b (by simp)) hlen).mono fun u hu => hu.imp id fun e => by omega)
        · cases h
      · cases h
    · cases h
  · cases h

theorem nestOp_elem {R : Rd} {tk : Nat} {o : Oper} {gv : List Nat} {b : Nat} {e : Ty} {l : List e.den} {m : M} (h : nestOp C ops R tk o = some (.elem gv b e l m)) : False := by
  unfold nestOp at h
  split at h
  · split at h
    · split at h
      · obtain ⟨_, h⟩ := Option.ite_none_right_eq_some.mp h
        split at h <;> cases h
      · cases h
    · cases h
  · split at h
    · split at h
      · obtain ⟨_, h⟩ := Option.ite_none_right_eq_some.mp h
        obtain ⟨r, _, h⟩ := Option.map_eq_some_iff.mp h
        cases h
      · cases h
    · cases h
  · split at h
    · split at h
      · split at h
        · obtain ⟨_, h⟩ := Option.ite_none_right_eq_some.mp h
          cases h
        · cases h
      · cases h
    · cases h
  · cases h

theorem evOp_elem {R : Rd} {tk : Nat} {o : Oper} {gv : List Nat} {b : Nat} {e : Ty} {l : List e.den} {m : M} (h : evOp C ops R tk g o = some (.elem gv b e l m)) : evOp0 C ops R tk g o = some (.elem gv b e l m) := by
  unfold evOp at h
  split at h
  · split at h
    · rename_i ef hn
      cases h
      exact (nestOp_elem hn).elim
    · exact h
  · exact h

theorem evOp_ok (hC : CxOk P C) (hI : Inv w0 c0 U E a w G) (hR : RI ops E a.tmps) (hg : Gd ops a.tmps g) {tk : Nat} (h3 : 3 ≤ tk) (hU : ∀ u, tk ≤ u → u < tk + 32 → ¬ U u) {o : Oper} {ef : Ef}
    (h : evOp C ops E.rd tk g o = some ef) : EfS P w0 c0 (fun u => U u ∨ (tk ≤ u ∧ u < tk + 32)) E a ((execOp a.eval o).run P w) ef := by
  unfold evOp at h
  split at h
  · split at h
    · rename_i ef' hn
      cases h
      exact nestOp_ok hC hI hR h3 hU hn
    · exact evOp0_ok hC hI hR hg h3 hU h
  · exact evOp0_ok hC hI hR hg h3 hU h

end
end Vg

/- VG, part 28: one operation of a region, guard and all. -/
namespace Vg
open Go

section
variable {P : Program} {C : Cx} {w0 : World} {c0 : C0} {U : Nat → Prop} {E : Env} {a : Act} {w : World} {G : Gh} {ops : List Oper} {g : Option (Nat × Bool)} {L : Nat → Prop}

/-- What the guarded slots say, where the operations of L have come up. -/
def RIL (ops : List Oper) (L : Nat → Prop) (E : Env) (tmps : Array Value) : Prop :=
  ∀ s j w act v, E.s.getD s .no = .g j w act v → (act = true ↔ yielded ops.toArray tmps j = some w) ∧ L j ∧ ∃ o ∈ ops, ∃ w', o.guard = some (j, w')

theorem RIL.ri {tmps : Array Value} (h : RIL ops L E tmps) : RI ops E tmps := fun s j w act v hs => (h s j w act v hs).1

theorem RIL.map {tmps : Array Value} (h : RIL ops L E tmps) {E' : Env} (hE : ∀ s j w act v, E'.s.getD s .no = .g j w act v → ∃ v', E.s.getD s .no = .g j w act v') : RIL ops L E' tmps := by
  intro s j w act v hs
  obtain ⟨v', h'⟩ := hE s j w act v hs
  exact h s j w act v' h'

theorem mapM_g {f : M → M} {fe : Nat → Bool} {fr : List Nat → Option (List Nat)} {s : SV} {j : Nat} {w act : Bool} {v : SV} (h : s.mapM f fe fr = .g j w act v) : ∃ v', s = .g j w act v' := by
  cases s with
  | g j' w' act' u => simp only [SV.mapM, SV.g.injEq] at h; obtain ⟨rfl, rfl, rfl, _⟩ := h; exact ⟨u, rfl⟩
  | ept t' e i o p τ => simp only [SV.mapM] at h; split at h <;> cases h
  | rdp hs v => simp only [SV.mapM] at h; split at h <;> cases h
  | _ => simp [SV.mapM] at h

theorem setRow_g {b : Nat} {e : Ty} {y : List e.den} {m : M} {s : SV} {j : Nat} {w act : Bool} {v : SV} (h : s.setRow b e y m = .g j w act v) : ∃ v', s = .g j w act v' := by
  cases s with
  | g j' w' act' u => simp only [SV.setRow, SV.g.injEq] at h; obtain ⟨rfl, rfl, rfl, _⟩ := h; exact ⟨u, rfl⟩
  | rdp hs v => simp only [SV.setRow] at h; split at h <;> cases h
  | _ => simp [SV.setRow] at h

theorem kill_g {ts : List Nat} {s j : Nat} {w act : Bool} {v : SV} (h : (E.kill ts).s.getD s .no = .g j w act v) : ∃ v', E.s.getD s .no = .g j w act v' := by
  rw [Env.kill_get] at h
  split at h
  · exact ⟨v, h⟩
  · exact mapM_g h

theorem killR_g {ts : List Nat} {rp : List (Nat × Nat)} {s j : Nat} {w act : Bool} {v : SV} (h : (E.killR ts rp).s.getD s .no = .g j w act v) : ∃ v', E.s.getD s .no = .g j w act v' := by
  rcases killR_get E ts rp s with h' | ⟨b, b', e, i, o, p, τ, _, _, h'⟩
  · rw [h'] at h; exact kill_g h
  · have := h'.symm.trans h; cases this

theorem give_g {ts : List Nat} {t s j : Nat} {w act : Bool} {v : SV} (h : (E.give ts t).s.getD s .no = .g j w act v) : ∃ v', E.s.getD s .no = .g j w act v' := by
  unfold Env.give at h
  split at h
  · exact ⟨v, h⟩
  · have := getD_map (L := E.s) (T := SV.give ts t) rfl s
    rw [this] at h
    exact mapM_g h

theorem elem_g {gv : List Nat} {b : Nat} {e : Ty} {l : List e.den} {m : M} {s j : Nat} {w act : Bool} {v : SV} (h : (E.elem gv b e l m).s.getD s .no = .g j w act v) : ∃ v', E.s.getD s .no = .g j w act v' := by
  have := getD_map (L := E.s) (T := fun s => ((s.give gv b).killSha b).setRow b e l m) rfl s
  simp only [Env.elem] at h
  rw [this] at h
  obtain ⟨v1, h1⟩ := setRow_g h
  obtain ⟨v2, h2⟩ := mapM_g h1
  exact mapM_g h2

theorem putBoxes_g {l : List (Nat × Nat × TV)} {K : List SV} {s j : Nat} {w act : Bool} {v : SV} (h : (putBoxes l K).getD s .no = .g j w act v) : K.getD s .no = .g j w act v := by
  rcases putBoxes_get l K s with h' | ⟨t, u, _, h'⟩
  · rw [← h']; exact h
  · rw [h'] at h; cases h

theorem yielded_put {a : Act} {d : Option Nat} {v : Value} {j : Nat} (h : ∀ x, d = some x → (ops[j]?).bind (·.dst) ≠ some x) :
    yielded ops.toArray (a.put d v).tmps j = yielded ops.toArray a.tmps j := by
  cases d with
  | none => rfl
  | some d =>
    unfold yielded
    simp only [List.getElem?_toArray]
    cases hd : (ops[j]?).bind (·.dst) with
    | none => rfl
    | some s =>
      have hne : d ≠ s := fun e => h d rfl (by rw [hd, e])
      simp [Act.put, Array.getElem?_setIfInBounds_ne hne]

/-- No slot that a guard asks for is written by another operation. -/
theorem guardsOk_spec (h : guardsOk ops = true) {o : Oper} (ho : o ∈ ops) {j : Nat} {w : Bool} (hg : o.guard = some (j, w)) {i : Nat} {o' : Oper} (hi : ops[i]? = some o') (hne : i ≠ j) :
    ∀ x, o'.dst = some x → (ops[j]?).bind (·.dst) ≠ some x := by
  intro x hx
  unfold guardsOk at h
  rw [List.all_eq_true] at h
  obtain ⟨k, hk, rfl⟩ := List.mem_iff_getElem.1 ho
  have := h (ops[k], k) (List.mem_zipIdx_iff_getElem?.2 (List.getElem?_eq_getElem hk))
  simp only [hg, Bool.and_eq_true] at this
  obtain ⟨_, this⟩ := this
  split at this
  · cases this
  · rename_i d hd
    rw [List.all_eq_true] at this
    have h2 := this (o', i) (List.mem_zipIdx_iff_getElem?.2 hi)
    simp only [Bool.or_eq_true, decide_eq_true_eq, hne, false_or] at h2
    intro e
    rw [hd] at e
    cases e
    exact h2 hx

theorem guardsOk_lt (h : guardsOk ops = true) {i : Nat} {o : Oper} (hi : ops[i]? = some o) {j : Nat} {w : Bool} (hg : o.guard = some (j, w)) : j < i := by
  unfold guardsOk at h
  rw [List.all_eq_true] at h
  have := h (o, i) (List.mem_zipIdx_iff_getElem?.2 hi)
  simp only [hg, Bool.and_eq_true, decide_eq_true_eq] at this
  exact this.1

theorem guardOf_ok (hI : Inv w0 c0 U E a w G) {j : Nat} {w' : Bool} {act : Option Bool} (h : guardOf ops E.rd (some (j, w')) = some act) :
    ∃ b, act = some b ∧ (b = true ↔ yielded ops.toArray a.tmps j = some w') := by
  simp only [guardOf] at h
  split at h
  · cases h
  · rename_i s hs
    have hsl := hI.slots s
    have hget : ∀ x : Bool, a.tmps.getD s undef = .bool x → yielded ops.toArray a.tmps j = some x := by
      intro x hx
      unfold yielded
      simp only [List.getElem?_toArray, hs, Option.bind_some]
      rw [Array.getD_eq_getD_getElem?] at hx
      cases hq : a.tmps[s]? with
      | none => rw [hq] at hx; cases hx
      | some v => rw [hq] at hx; simp at hx; rw [hx]
    have hnone : a.tmps.getD s undef = undef → yielded ops.toArray a.tmps j = none := by
      intro hx
      unfold yielded
      simp only [List.getElem?_toArray, hs, Option.bind_some]
      rw [Array.getD_eq_getD_getElem?] at hx
      cases hq : a.tmps[s]? with
      | none => rfl
      | some v => rw [hq] at hx; simp at hx; rw [hx]; rfl
    have hbool : ∀ {x : Bool} {sh : Sh} {mv : Value}, SOk w G (.d ⟨.bool, x, sh⟩) mv → mv = .bool x := by
      intro x sh mv hv
      obtain ⟨cs, h1, h2⟩ := hv
      cases sh with
      | leaf => rw [h1, show cs = _ from h2]; rfl
      | sl m => exact h2.elim
      | pair a b => exact h2.elim
    split at h
    · rename_i x sh hx
      cases h
      have hv : E.s.getD s .no = .d ⟨.bool, x, sh⟩ := by
        have : alias_ (E.s.getD s .no) = .d ⟨.bool, x, sh⟩ := hx
        cases hq : E.s.getD s .no with
        | d v => rw [hq] at this; exact this
        | _ => rw [hq] at this; simp [alias_] at this
      rw [hv] at hsl
      refine ⟨_, rfl, ?_⟩
      rw [hget x (hbool hsl)]
      simp
    · rename_i j' w'' act' x sh hx
      cases h
      obtain ⟨u', hv, hu⟩ := alias_g (sv := E.s.getD s .no) hx
      have hu' : u' = .d ⟨.bool, x, sh⟩ := by
        cases u' with
        | d v => exact hu.symm
        | _ => simp [alias_] at hu
      subst hu'
      rw [hv] at hsl
      refine ⟨_, rfl, ?_⟩
      cases act' with
      | true =>
        rw [hget x (hbool (hsl.1 rfl).2)]
        simp
      | false =>
        rw [hnone (hsl.2 rfl)]
        simp
    · cases h

theorem wrapG_none (v : SV) (o : Option (Nat × Bool)) : wrapG o none v = v.noG := by
  unfold wrapG; split <;> simp_all

theorem noG_ok {v : SV} {mv : Value} (hs : SOk w G v mv) (hm : Ment U G v) : SOk w G v.noG mv ∧ Ment U G v.noG := by
  cases v with
  | g => exact ⟨trivial, by simp [Ment, SV.noG, SV.sc, SV.bt, SV.rt]⟩
  | _ => exact ⟨hs, hm⟩

theorem noG_box {v : SV} {t : Nat} {u : TV} (h : v.noG = .box t u) : v = .box t u := by
  cases v with
  | g => cases h
  | _ => exact h

theorem noG_g {v u : SV} {j : Nat} {w act : Bool} : v.noG ≠ .g j w act u := by
  cases v <;> simp [SV.noG]

/-- A written slot, under a guard or not. -/
theorem wrap_ok {v : SV} {mv : Value} {j : Nat} {w' : Bool} (hs : SOk w G v mv) (hm : Ment U G v) : SOk w G (wrapG (some (j, w')) (some true) v) mv ∧ Ment U G (wrapG (some (j, w')) (some true) v) ∧ ∀ t u, wrapG (some (j, w')) (some true) v ≠ .box t u := by
  unfold wrapG
  cases hb : v.isBox with
  | true => simp only [hb, if_true]; exact ⟨trivial, by simp [Ment, SV.sc, SV.bt, SV.rt], by simp⟩
  | false =>
    simp only [hb, Bool.false_eq_true, if_false]
    exact ⟨⟨fun _ => ⟨hb, hs⟩, fun e => absurd e (by simp)⟩, by simpa [Ment, SV.sc, SV.bt, SV.rt] using hm, by simp⟩

theorem wrap_no {v : SV} {j : Nat} {w' : Bool} : SOk w G (wrapG (some (j, w')) (some false) v) undef ∧ Ment U G (wrapG (some (j, w')) (some false) v) ∧ ∀ t u, wrapG (some (j, w')) (some false) v ≠ .box t u := by
  unfold wrapG
  cases hb : v.isBox with
  | true => simp only [hb, if_true]; exact ⟨trivial, by simp [Ment, SV.sc, SV.bt, SV.rt], by simp⟩
  | false =>
    simp only [hb, Bool.false_eq_true, if_false]
    exact ⟨⟨fun e => absurd e (by simp), fun _ => rfl⟩, by simp [Ment, SV.sc, SV.bt, SV.rt], by simp⟩

end
end Vg
