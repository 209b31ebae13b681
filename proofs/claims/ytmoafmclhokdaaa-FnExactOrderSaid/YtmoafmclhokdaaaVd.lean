/- VG, joined: an evaluator of the code over typed values, and its soundness, for any program. -/
import Derived.Test.YtmoafmclhokdaaaVc
import Derived.KernelRfl
import Derived.Lib.Join
import Derived.Below
import Derived.Shelf.GgSortMore.Stable
import Derived.Shelf.SlSortFuncK.WholeK
import Derived.Lib.SlicesSearch
import Derived.Deep.LoopGhost
set_option linter.unusedSimpArgs false
set_option linter.unusedVariables false
/- VG, part 69: a region that strikes an element out of a row: l = append(l[:i], l[i+1:]...). -/
namespace Vg
open Go

section
variable {P : Program} {C : Cx} {w0 : World} {c0 : C0} {U : Nat → Prop} {E : Env} {a : Act} {w : World} {G : Gh} {Q : Exit → Act → World → Prop}

/-- The row behind the stroke. -/
theorem del_mem {e : Ty} {l : List e.den} {b off cap : Nat} {c : Array Value} {el : TypeId} {Bs : List Nat} {i : Nat} (hi : i < l.length) (hh : w.heap[b]? = some (.cells c el (0, 0)))
    (hsz : off + cap * e.sz ≤ c.size) (hcap : l.length ≤ cap) (hl : RepL (Rep w e) l ((c.toList.drop off).take (l.length * e.sz)) Bs) (hn : (b :: Bs).Nodup) :
    ∃ Bs', RepS (w.setCells b (off + i * e.sz) (((c.toList.drop off).take (l.length * e.sz)).drop ((i + 1) * e.sz))) e.sz (Rep (w.setCells b (off + i * e.sz) (((c.toList.drop off).take (l.length * e.sz)).drop ((i + 1) * e.sz))) e)
      (l.take i ++ l.drop (i + 1)) (.slice (some ⟨b, off, none⟩) (l.length - 1) cap) (b :: Bs') ∧ (∀ x ∈ Bs', x ∈ Bs) ∧ (b :: Bs').Nodup := by
  have hx : l[i]? = some l[i] := List.getElem?_eq_getElem hi
  obtain ⟨B1, Bx, B2, rfl, _, h1, h2⟩ := RepL.get (sz := e.sz) (fun x c B h => Rep.len h) hl hx
  generalize hcs : (c.toList.drop off).take (l.length * e.sz) = cs at *
  have hm1 : i * e.sz + e.sz = (i + 1) * e.sz := by rw [Nat.add_mul, Nat.one_mul]
  have hm2 : (i + 1) * e.sz ≤ l.length * e.sz := Nat.mul_le_mul_right _ hi
  have hm3 : l.length * e.sz ≤ cap * e.sz := Nat.mul_le_mul_right _ hcap
  have hcl : cs.length = l.length * e.sz := by rw [← hcs]; simp; omega
  generalize hys : cs.drop ((i + 1) * e.sz) = ys at *
  have hyl : ys.length = l.length * e.sz - (i + 1) * e.sz := by rw [← hys]; simp [hcl]
  have hrow := setCells_row b (el := el) ys (off + i * e.sz) w c hh (by omega)
  rw [List.nodup_cons] at hn
  simp only [List.mem_append, not_or, List.append_assoc] at hn
  have hne : ∀ z ∈ B1 ++ B2, (w.setCells b (off + i * e.sz) ys).heap[z]? = w.heap[z]? := by
    intro z hz
    refine setCells_other b _ _ w z (fun e => ?_)
    subst e
    rcases List.mem_append.1 hz with h | h
    · exact hn.1.1 h
    · exact hn.1.2.2 h
  refine ⟨B1 ++ B2, .inr ⟨b, off, cap, _, el, (0, 0), B1 ++ B2, ?_, ?_, hrow, ?_, rfl, ?_⟩, ?_, ?_⟩
  · simp; omega
  · simp; omega
  · simp; omega
  · have hlen : (l.take i ++ l.drop (i + 1)).length * e.sz = i * e.sz + ys.length := by
      have : (l.take i ++ l.drop (i + 1)).length = i + (l.length - (i + 1)) := by simp; omega
      rw [this, Nat.add_mul, hyl, Nat.sub_mul]
    have hcells : ((c.toList.take (off + i * e.sz) ++ ys ++ c.toList.drop (off + i * e.sz + ys.length)).drop off).take ((l.take i ++ l.drop (i + 1)).length * e.sz) = cs.take (i * e.sz) ++ ys := by
      have htl : (c.toList.take (off + i * e.sz)).length = off + i * e.sz := by simp; omega
      have e1 : (c.toList.take (off + i * e.sz)).drop off = cs.take (i * e.sz) := by
        rw [← hcs, List.take_take, Nat.min_eq_left (by omega), List.drop_take]
        congr 1; omega
      rw [List.append_assoc, List.drop_append_of_le_length (by omega), e1, ← List.append_assoc, hlen]
      have hl2 : (cs.take (i * e.sz) ++ ys).length = i * e.sz + ys.length := by rw [List.length_append, List.length_take, hcl, Nat.min_eq_left (by omega)]
      rw [← hl2, List.take_left]
    have hr := RepL.append h1 h2
    have := RepL.world hne hr
    rw [hcells]
    exact this
  · intro x hx
    rcases List.mem_append.1 hx with h | h
    · simp [h]
    · simp [h]
  · rw [List.nodup_cons]
    refine ⟨fun h => ?_, ?_⟩
    · rcases List.mem_append.1 h with h | h
      · exact hn.1.1 h
      · exact hn.1.2.2 h
    · have h2 := hn.2
      rw [List.nodup_append] at h2 ⊢
      obtain ⟨q1, q2, q3⟩ := h2
      rw [List.nodup_append] at q2
      exact ⟨q1, q2.2.1, fun a ha b hb => q3 a ha b (List.mem_append_right _ hb)⟩

/-- The surroundings behind the stroke. -/
theorem Inv.del (hI : Inv w0 c0 U E a w G) {e : Ty} {l : List e.den} {v : Value} {m : M} {ts : List Nat} (hr : RowOk w G e l v m) (ho : m.own = some ts) (hts : ∀ c ∈ ts, 3 ≤ c ∧ Good U G c)
    {i : Nat} (hi : i < l.length) {tk : Nat} (h3 : 3 ≤ tk) (hU : ¬ U tk) :
    ∃ b off cap c el, v = .slice (some ⟨b, off, none⟩) l.length cap ∧ l.length ≤ cap ∧ w.heap[b]? = some (.cells c el (0, 0)) ∧ off + cap * e.sz ≤ c.size ∧ (∀ u ∈ (c.toList.drop off).take (l.length * e.sz), u.oneCell' = true) ∧
      ∃ G', Inv w0 c0 (fun u => U u ∨ u = tk) (E.kill ts) a (w.setCells b (off + i * e.sz) (((c.toList.drop off).take (l.length * e.sz)).drop ((i + 1) * e.sz))) G' ∧
        RowOk (w.setCells b (off + i * e.sz) (((c.toList.drop off).take (l.length * e.sz)).drop ((i + 1) * e.sz))) G' e (l.take i ++ l.drop (i + 1)) (.slice (some ⟨b, off, none⟩) (l.length - 1) cap) (.row tk [tk] true) ∧ G'.bx tk = false := by
  obtain ⟨B, hB, hn, hc⟩ := hr.own ho
  rcases hB with ⟨_, rfl, _⟩ | ⟨b, off, cap, c, el, fz, Bs, hv, hcap, hb, hsz, rfl, hl⟩
  · simp at hi
  · have hcb := hc b (by simp)
    obtain ⟨c', el', hf⟩ := hI.fresh b (hts _ hcb).1
    rw [hf] at hb
    simp only [Option.some.injEq, Obj.cells.injEq] at hb
    obtain ⟨rfl, rfl, rfl⟩ := hb
    obtain ⟨Bs', r1, r2, r3⟩ := del_mem hi hf hsz hcap hl hn
    refine ⟨b, off, cap, c', el', hv, hcap, hf, hsz, RepL.cell1 hl, G.give ts tk (.slice (some ⟨b, off, none⟩) (l.length - 1) cap), ?_, ⟨h3, by simp [Gh.give], b :: Bs', r1, fun b2 Bs2 h2 => ?_⟩, by simp [Gh.give]⟩
    · have hm2 : (i + 1) * e.sz ≤ l.length * e.sz := Nat.mul_le_mul_right _ hi
      have hm1 : i * e.sz + e.sz = (i + 1) * e.sz := by rw [Nat.add_mul, Nat.one_mul]
      have hm3 : l.length * e.sz ≤ cap * e.sz := Nat.mul_le_mul_right _ hcap
      generalize hys : ((c'.toList.drop off).take (l.length * e.sz)).drop ((i + 1) * e.sz) = ys at *
      have hyl : ys.length = l.length * e.sz - (i + 1) * e.sz := by rw [← hys]; simp; omega
      have hrow := setCells_row b (el := el') ys (off + i * e.sz) w c' hf (by omega)
      refine (hI.kill ts).change (ts := ts) (kill_hc hI hts) (fun z _ hz => ⟨setCells_other b _ _ w z (fun e => hz (e ▸ hcb)), by simp [Gh.give, hz]⟩) (fun u hu => ?_) (fun _ h => .inl h) (fun z hz => ?_)
        (fun z hz => ?_) (fun z hz => ?_) (fun z hz hc1 => ?_) (fun z hz => ?_) (by rw [setCells_size]; exact Nat.le_refl _)
        (setCells_env b _ _ w).1 (setCells_env b _ _ w).2.1 (setCells_env b _ _ w).2.2
      · have : u ≠ tk := fun e => hU (e ▸ hu)
        simp [Gh.give, this]
      · simp only [Gh.give] at hz ⊢
        split at hz
        · right; rw [if_pos (by assumption)]
        · left; rw [if_neg (by assumption)]; exact hI.colU z hz
      · rw [setCells_size]
        simp only [Gh.give] at hz
        split at hz
        · rename_i h; exact hI.lt z (by have := (hts _ h).1; omega)
        · exact hI.lt z hz
      · have hz3 : 3 ≤ G.col z := by
          simp only [Gh.give] at hz
          split at hz
          · rename_i h; exact (hts _ h).1
          · exact hz
        by_cases e1 : z = b
        · subst e1; exact ⟨_, _, hrow⟩
        · rw [setCells_other b _ _ w z e1]; exact hI.fresh z hz3
      · have hf := hI.frame z hz hc1
        have hnot : G.col z ∉ ts := fun h => by have := (hts _ h).1; omega
        refine ⟨(if_neg hnot).trans hf.1, ?_⟩
        rw [setCells_other b _ _ w z (fun e => hnot (e ▸ hcb))]
        exact hf.2
      · simp only [Gh.give] at hz
        split at hz
        · omega
        · exact hz
    · cases h2
      refine ⟨by simp [Gh.give, hcb], (List.nodup_cons.1 r3).1, fun x hx => ?_, fun _ => (List.nodup_cons.1 r3).2⟩
      simp [Gh.give, hc x (List.mem_cons_of_mem _ (r2 x hx))]

end
end Vg

/- VG, part 70: the region that strikes an element out of a row, whole. -/
namespace Vg
open Go

def mvOf (o : Oper) : Option (Nat × Nat) :=
  match o.guard, o.op, o.dst with
  | none, .move (.tmp x), some d => some (d, x)
  | _, _, _ => none
def asgOf (o : Oper) : Option (Nat × Nat) :=
  match o.guard, o.op, o.dst with
  | none, .assign (.tmp x), some d => some (d, x)
  | _, _, _ => none
def slHi (o : Oper) : Option (TypeId × Nat × Nat × Nat) :=
  match o.guard, o.op, o.dst with
  | none, .slice t (.tmp x) none (some (.tmp h)) none, some d => some (t, d, x, h)
  | _, _, _ => none
def slLo (o : Oper) : Option (TypeId × Nat × Nat × Nat) :=
  match o.guard, o.op, o.dst with
  | none, .slice t (.tmp x) (some (.tmp h)) none none, some d => some (t, d, x, h)
  | _, _, _ => none
def incOf (o : Oper) : Option (TypeId × Nat × Nat) :=
  match o.guard, o.op, o.dst with
  | none, .binOp .add t (.tmp x) (.const (.int .i64 1)) _, some d => some (t, d, x)
  | _, _, _ => none
def appOf (o : Oper) : Option (TypeId × Nat × Nat × Nat) :=
  match o.guard, o.op, o.dst with
  | none, .call c, some d => (match c.callee, c.args.toList, c.argTypes.toList with
    | .builtin .append, [.tmp x, .tmp y], [t, u] => (match decide (t = u) with | true => some (t, d, x, y) | false => none)
    | _, _, _ => none)
  | _, _, _ => none

structure DelD where
  t : TypeId
  ti : TypeId
  s : Nat
  j : Nat
  d0 : Nat
  d1 : Nat
  d2 : Nat
  d3 : Nat
  d4 : Nat
  d5 : Nat
  d6 : Nat
  d7 : Nat

def DelD.tmps (d : DelD) : List Nat := [d.s, d.j, d.d0, d.d1, d.d2, d.d3, d.d4, d.d5, d.d6, d.d7]

def DelD.outs (d : DelD) : List Nat := [d.s, d.d0, d.d1, d.d2, d.d3, d.d4, d.d5, d.d6, d.d7]

def lst (n : Nat) : Nat → Array Bool
  | 0 => Array.replicate n false
  | i + 1 => (lst n i).setIfInBounds i true

/-- The steps may be taken in the order of the text. -/
def delOrd (ops : Array Oper) : Bool :=
  Region.noSelect ops && (List.range 7).all (fun i => Region.free .any ops (lst 9 i) i && (Region.ready .any ops (lst 9 i)).contains i) &&
  decide (Region.ready .any ops (lst 9 7) = [7]) && decide (Region.ready .any ops (lst 9 8) = [8]) && decide (Region.ready .any ops (lst 9 9) = [])

def delOf (ops : List Oper) : Option DelD :=
  match ops with
  | [o0, o1, o2, o3, o4, o5, o6, o7, o8] =>
    match mvOf o0, mvOf o1, slHi o2, mvOf o3, mvOf o4, incOf o5, slLo o6, appOf o7, asgOf o8 with
    | some (d0, s), some (d1, j), some (t, d2, x2, h2), some (d3, s3), some (d4, j4), some (ti, d5, x5), some (t6, d6, x6, l6), some (t7, d7, x7, y7), some (s8, x8) =>
      match decide (x2 = d0 ∧ h2 = d1 ∧ s3 = s ∧ j4 = j ∧ x5 = d4 ∧ x6 = d3 ∧ l6 = d5 ∧ x7 = d2 ∧ y7 = d6 ∧ x8 = d7 ∧ s8 = s ∧ t6 = t ∧ t7 = t ∧ ([s, j, d0, d1, d2, d3, d4, d5, d6, d7] : List Nat).Nodup) && delOrd #[o0, o1, o2, o3, o4, o5, o6, o7, o8] with
      | true => some ⟨t, ti, s, j, d0, d1, d2, d3, d4, d5, d6, d7⟩
      | false => none
    | _, _, _, _, _, _, _, _, _ => none
  | _ => none

section
variable {P : Program} {C : Cx} {w0 : World} {c0 : C0} {U : Nat → Prop} {E : Env} {a : Act} {w : World} {G : Gh} {Q : Exit → Act → World → Prop}

theorem mvOf_spec {o : Oper} {d x : Nat} (h : mvOf o = some (d, x)) : o.guard = none ∧ o.op = .move (.tmp x) ∧ o.dst = some d := by
  unfold mvOf at h
  split at h
  · rename_i h1 h2 h3; cases h; exact ⟨h1, h2, h3⟩
  · cases h
theorem asgOf_spec {o : Oper} {d x : Nat} (h : asgOf o = some (d, x)) : o.guard = none ∧ o.op = .assign (.tmp x) ∧ o.dst = some d := by
  unfold asgOf at h
  split at h
  · rename_i h1 h2 h3; cases h; exact ⟨h1, h2, h3⟩
  · cases h
theorem slHi_spec {o : Oper} {t : TypeId} {d x y : Nat} (h : slHi o = some (t, d, x, y)) : o.guard = none ∧ o.op = .slice t (.tmp x) none (some (.tmp y)) none ∧ o.dst = some d := by
  unfold slHi at h
  split at h
  · rename_i h1 h2 h3; cases h; exact ⟨h1, h2, h3⟩
  · cases h
theorem slLo_spec {o : Oper} {t : TypeId} {d x y : Nat} (h : slLo o = some (t, d, x, y)) : o.guard = none ∧ o.op = .slice t (.tmp x) (some (.tmp y)) none none ∧ o.dst = some d := by
  unfold slLo at h
  split at h
  · rename_i h1 h2 h3; cases h; exact ⟨h1, h2, h3⟩
  · cases h
theorem incOf_spec {o : Oper} {t : TypeId} {d x : Nat} (h : incOf o = some (t, d, x)) : o.guard = none ∧ (∃ u, o.op = .binOp .add t (.tmp x) (.const (.int .i64 1)) u) ∧ o.dst = some d := by
  unfold incOf at h
  split at h
  · rename_i h1 h2 h3; cases h; exact ⟨h1, ⟨_, h2⟩, h3⟩
  · cases h
theorem appOf_spec {o : Oper} {t : TypeId} {d x y : Nat} (h : appOf o = some (t, d, x, y)) : o.guard = none ∧ (∃ c : Call, o.op = .call c ∧ c.callee = .builtin .append ∧ c.args = #[.tmp x, .tmp y] ∧ c.argTypes = #[t, t]) ∧ o.dst = some d := by
  unfold appOf at h
  split at h
  · rename_i c d' h1 h2 h3
    split at h
    · rename_i x' y' t' u' hc ha ht
      split at h
      · rename_i e
        simp only [decide_eq_true_eq] at e
        cases h
        subst e
        exact ⟨h1, ⟨c, h2, hc, Array.ext' (by simpa using ha), Array.ext' (by simpa using ht)⟩, h3⟩
      · cases h
    · cases h
  · cases h

theorem run_mv {o : Oper} {x : Nat} (h : o.op = .move (.tmp x)) : (execOp a.eval o).run P w = .ok (.value (a.tmps.getD x undef)) w := by
  simp only [execOp, h]; rfl
theorem run_asg {o : Oper} {x : Nat} (h : o.op = .assign (.tmp x)) : (execOp a.eval o).run P w = .ok (.value (a.tmps.getD x undef)) w := by
  simp only [execOp, h]; rfl

theorem put_at {d s : Nat} {v : Value} (h : d < a.tmps.size) : (a.put (some d) v).tmps.getD s undef = if s = d then v else a.tmps.getD s undef := by
  rw [tmps_put a (some d) v s (by rintro x ⟨⟩; exact h)]
  by_cases e : s = d
  · subst e; rw [if_pos rfl, if_pos rfl]
  · rw [if_neg (by simpa using e), if_neg e]

theorem run_cutHi {o : Oper} {t el : TypeId} {e : Ty} {x y n cap b off : Nat} {i : Nat} (hu : P.underlying t = some (.slice el)) (hT : TyFacts P el e) (h : o.op = .slice t (.tmp x) none (some (.tmp y)) none)
    (hx : a.tmps.getD x undef = .slice (some ⟨b, off, none⟩) n cap) (hy : a.tmps.getD y undef = .int .i64 i) (h1 : i ≤ cap) : (execOp a.eval o).run P w = .ok (.value (.slice (some ⟨b, off, none⟩) i cap)) w := by
  simp only [execOp, h]
  refine run_v ?_
  have hx' : a.eval (.tmp x) = .slice (some ⟨b, off, none⟩) n cap := hx
  have hy' : a.eval (.tmp y) = .int .i64 i := hy
  have := run_bound (P := P) (w := w) (k := .i64) (i := (i : Int)) (y := cap) (code := .sliceAcap) (by omega) (by omega)
  rw [hx']
  simp only [Int.toNat_natCast] at this
  by_cases hc : cap = 0
  · rw [hc] at this
    simp [Instr.sliceAt, Instr.slice, Instr.sliceBounds, run_underlying hu, run_sizeOf' hT, hy', this, hc]
  · simp [Instr.sliceAt, Instr.slice, Instr.sliceBounds, run_underlying hu, run_sizeOf' hT, hy', this, Addr.add_lit]

theorem run_cutLo {o : Oper} {t el : TypeId} {e : Ty} {x y n cap b off : Nat} {i : Nat} (hu : P.underlying t = some (.slice el)) (hT : TyFacts P el e) (h : o.op = .slice t (.tmp x) (some (.tmp y)) none none)
    (hx : a.tmps.getD x undef = .slice (some ⟨b, off, none⟩) n cap) (hy : a.tmps.getD y undef = .int .i64 i) (h1 : i ≤ n) : (execOp a.eval o).run P w = .ok (.value (.slice (some ⟨b, if cap = i then off else off + i * e.sz, none⟩) (n - i) (cap - i))) w := by
  simp only [execOp, h]
  refine run_v ?_
  have hx' : a.eval (.tmp x) = .slice (some ⟨b, off, none⟩) n cap := hx
  have hy' : a.eval (.tmp y) = .int .i64 i := hy
  have := run_bound (P := P) (w := w) (k := .i64) (i := (i : Int)) (y := n) (code := .sliceB) (by omega) (by omega)
  rw [hx']
  simp only [Int.toNat_natCast] at this
  by_cases hc : cap = i
  · subst hc
    simp [Instr.sliceAt, Instr.slice, Instr.sliceBounds, run_underlying hu, run_sizeOf' hT, hy', this]
  · simp [Instr.sliceAt, Instr.slice, Instr.sliceBounds, run_underlying hu, run_sizeOf' hT, hy', this, hc, Addr.add_lit]

theorem run_inc {o : Oper} {t u : TypeId} {x : Nat} {i : Nat} (h : o.op = .binOp .add t (.tmp x) (.const (.int .i64 1)) u) (hx : a.tmps.getD x undef = .int .i64 i) (hi : i < 4294967296) :
    (execOp a.eval o).run P w = .ok (.value (.int .i64 ((i + 1 : Nat) : Int))) w := by
  simp only [execOp, h]
  refine run_v ?_
  have hx' : a.eval (.tmp x) = .int .i64 i := hx
  have h1 : a.eval (.const (.int .i64 1)) = .int .i64 1 := rfl
  rw [hx', h1]
  have hw : IntKind.i64.wrap ((i : Int) + 1) = ((i + 1 : Nat) : Int) := by
    simp only [IntKind.wrap, IntKind.signed, IntKind.bits]
    simp
    omega
  have hgd : ∀ v, eqGuard .add t (.tmp x) (.const (.int .i64 1)) (.int .i64 i) v = pure () := fun v => eqGuard_at_int ..
  simp [hgd, binOp, Op.intArith, hw]


theorem slot_int' (hI : Inv w0 c0 U E a w G) {j : Nat} {n : Int} {sh : Sh} (h : E.get j = .d ⟨.int .i64, n, sh⟩) : a.tmps.getD j undef = .int .i64 n := by
  have hs := hI.slots j
  have h' : E.s.getD j .no = .d ⟨.int .i64, n, sh⟩ := h
  rw [h'] at hs
  obtain ⟨cs, h1, h2⟩ := hs
  cases sh with
  | leaf => rw [h1, show cs = _ from h2]; rfl
  | sl m => exact h2.elim
  | pair a b => exact h2.elim

theorem Inv.putNo' (hI : Inv w0 c0 U E a w G) (d : Option Nat) (v : Value) : Inv w0 c0 U (E.set d .no) (a.put d v) w G :=
  hI.put d (sv := .no) trivial (by simp [SV.sc]) (by simp [SV.bt]) (by simp [SV.rt]) (by rintro _ _ ⟨⟩)

theorem delOf_spec {ops : Array Oper} {d : DelD} (h : delOf ops.toList = some d) : ∃ o0 o1 o2 o3 o4 o5 o6 o7 o8, ops = #[o0, o1, o2, o3, o4, o5, o6, o7, o8] ∧
    mvOf o0 = some (d.d0, d.s) ∧ mvOf o1 = some (d.d1, d.j) ∧ slHi o2 = some (d.t, d.d2, d.d0, d.d1) ∧ mvOf o3 = some (d.d3, d.s) ∧ mvOf o4 = some (d.d4, d.j) ∧ incOf o5 = some (d.ti, d.d5, d.d4) ∧
    slLo o6 = some (d.t, d.d6, d.d3, d.d5) ∧ appOf o7 = some (d.t, d.d7, d.d2, d.d6) ∧ asgOf o8 = some (d.s, d.d7) ∧ d.tmps.Nodup ∧ delOrd ops = true := by
  unfold delOf at h
  split at h
  · rename_i o0 o1 o2 o3 o4 o5 o6 o7 o8 hops
    split at h
    · rename_i h0 h1 h2 h3 h4 h5 h6 h7 h8
      split at h
      · rename_i hc
        simp only [Bool.and_eq_true, decide_eq_true_eq] at hc
        obtain ⟨⟨rfl, rfl, rfl, rfl, rfl, rfl, rfl, rfl, rfl, rfl, rfl, rfl, rfl, hn⟩, ho⟩ := hc
        cases h
        have he : ops = #[o0, o1, o2, o3, o4, o5, o6, o7, o8] := Array.ext' hops
        exact ⟨o0, o1, o2, o3, o4, o5, o6, o7, o8, he, h0, h1, h2, h3, h4, h5, h6, h7, h8, hn, by rw [he]; exact ho⟩
      · cases h
    · cases h
  · cases h

theorem setCells_drawn (b : Nat) : ∀ (vs : List Value) (o n : Nat) (w : World), ({ w with drawn := n } : World).setCells b o vs = { w.setCells b o vs with drawn := n }
  | [], _, _, _ => rfl
  | v :: r, o, n, w => by
    rw [World.setCells, World.setCells, ← setCells_drawn b r (o + 1) n]
    rfl

/-- The surroundings behind the region. -/
def delE (E : Env) (d : DelD) (ts : List Nat) (tk : Nat) (e : Ty) (l : List e.den) (i : Nat) : Env :=
  ((((((((((E.kill ts).set (some d.d0) .no).set (some d.d1) .no).set (some d.d2) .no).set (some d.d3) .no).set (some d.d4) .no).set (some d.d5) .no).set (some d.d6) .no).set (some d.d7) .no).set (some d.s)
    (.d ⟨.sl e, l.take i ++ l.drop (i + 1), .sl (.row tk [tk] true)⟩))

theorem yields_of {ops : Array Oper} {o : Oper} {v : Value} (hg : o.guard = none) (h : ∀ w, (execOp a.eval o).run P w = .ok (.value v) w) : Go.Yields P ops o v a :=
  .inl ⟨by simp [Region.wanted, hg], h⟩

set_option maxHeartbeats 1000000 in
theorem del_region (hC : CxTy P C) (hm : P.follows .mixedOrders = true) {N : Nat} (hI : Inv w0 c0 (fun u => u < N) E a w G) {ops : Array Oper} {d : DelD} (hd : delOf ops.toList = some d)
    {e : Ty} {l : List e.den} {m : M} {fs : List TypeId} {el : TypeId} (ht : C.tt d.t = some ⟨.sl e, fs, el⟩) (hs : E.s.getD d.s .no = .d ⟨.sl e, l, .sl m⟩) {i : Nat} {sh : Sh} (hj : E.get d.j = .d ⟨.int .i64, (i : Int), sh⟩)
    {ts : List Nat} (ho : m.own = some ts) (hi : i < l.length) (hl : l.length < 4294967296) (hsz : ∀ x ∈ d.tmps, x < E.s.length) {tk : Nat} (h3 : 3 ≤ tk) (hN : N ≤ tk) {id : Nat}
    (hK : ∀ a' w' G', Inv w0 c0 (fun u => u < N ∨ u = tk) (delE E d ts tk e l i) a' w' G' → (∀ x, x ∉ d.outs → a'.tmps.getD x undef = a.tmps.getD x undef) → Q .normal a' w') :
    (Code.region id ops true).wp P Q a w := by
  obtain ⟨o0, o1, o2, o3, o4, o5, o6, o7, o8, rfl, q0, q1, q2, q3, q4, q5, q6, q7, q8, hn, hord⟩ := delOf_spec hd
  obtain ⟨g0, p0, t0⟩ := mvOf_spec q0
  obtain ⟨g1, p1, t1⟩ := mvOf_spec q1
  obtain ⟨g2, p2, t2⟩ := slHi_spec q2
  obtain ⟨g3, p3, t3⟩ := mvOf_spec q3
  obtain ⟨g4, p4, t4⟩ := mvOf_spec q4
  obtain ⟨g5, ⟨u5, p5⟩, t5⟩ := incOf_spec q5
  obtain ⟨g6, p6, t6⟩ := slLo_spec q6
  obtain ⟨g7, ⟨c7, p7, pc, pa, pt⟩, t7⟩ := appOf_spec q7
  obtain ⟨g8, p8, t8⟩ := asgOf_spec q8
  have hT := (hC.tt _ _ ht).2
  obtain ⟨hu, hel⟩ := hT
  have hslot := hI.slots d.s
  have hment := hI.ment d.s
  rw [hs] at hslot hment
  obtain ⟨cs, hmv, hvk⟩ := hslot
  obtain ⟨v, rfl, hrow⟩ := hvk
  have hv : a.tmps.getD d.s undef = v := hmv
  have hjv := slot_int' hI hj
  have hts : ∀ c ∈ ts, 3 ≤ c ∧ Good (fun u => u < N) G c := by
    intro c hc
    have hsub := M.own_sub ho c hc
    have h1 := hment.1 c hsub
    refine ⟨?_, h1⟩
    cases m with
    | row t hs' nd =>
      obtain ⟨k1, k2, k3⟩ := M.own_ge ho
      rcases (k3 c).1 hc with rfl | hc
      · exact hrow.1
      · exact k2 c hc
    | sha hs' =>
      cases hs' with
      | nil => simp [M.own] at ho; subst ho; cases hc
      | cons x y => simp [M.own] at ho
    | nst => simp [M.own] at ho
    | dead => simp [M.own] at ho
  obtain ⟨b, off, cap, c, elx, rfl, hcap, hheap, hszc, h1c, hdel⟩ := hI.del hrow ho hts hi h3 (Nat.not_lt.2 hN)
  obtain ⟨G', hI', hrow', hbx'⟩ := hdel
  change l.length ≤ cap at hcap
  simp only [DelD.tmps, List.nodup_cons, List.mem_cons, List.not_mem_nil, or_false, not_or, List.nodup_nil, and_true] at hn
  obtain ⟨⟨n0_1, n0_2, n0_3, n0_4, n0_5, n0_6, n0_7, n0_8, n0_9⟩, ⟨n1_2, n1_3, n1_4, n1_5, n1_6, n1_7, n1_8, n1_9⟩, ⟨n2_3, n2_4, n2_5, n2_6, n2_7, n2_8, n2_9⟩, ⟨n3_4, n3_5, n3_6, n3_7, n3_8, n3_9⟩, ⟨n4_5, n4_6, n4_7, n4_8, n4_9⟩, ⟨n5_6, n5_7, n5_8, n5_9⟩, ⟨n6_7, n6_8, n6_9⟩, ⟨n7_8, n7_9⟩, n8_9⟩ := hn
  have hlen : a.tmps.size = E.s.length := hI.len
  simp only [DelD.tmps, List.mem_cons, List.not_mem_nil, or_false, forall_eq_or_imp, forall_eq] at hsz
  rw [← hlen] at hsz
  obtain ⟨z0, z1, z2, z3, z4, z5, z6, z7, z8, z9⟩ := hsz
  simp only [delOrd, Bool.and_eq_true, List.all_eq_true, List.mem_range, decide_eq_true_eq] at hord
  obtain ⟨⟨⟨⟨hsel, hfr⟩, hr7⟩, hr8⟩, hr9⟩ := hord
  refine wp_mono (Q := fun ex a w => ex = .normal ∧ Q .normal a w) ?_ (fun ex a w h => by obtain ⟨rfl, h⟩ := h; exact h)
  refine wp_region_any hm ?_
  have hQ : ∀ (v : Value) (o : Oper) c (a : Act) (w : World), (fun (ex : Exit) (a : Act) (w : World) => ex = .normal ∧ Q .normal a w) (.panic c) (a.put o.dst v) w → (fun (ex : Exit) (a : Act) (w : World) => ex = .normal ∧ Q .normal a w) (.panic c) a w :=
    fun v o c a w h => by have := h.1; cases this
  generalize hw1 : ({ w with drawn := w.drawn + 1 } : World) = w1
  show wpAny P .any _ _ 9 (lst 9 0) a w1
  -- 0
  refine wpAny_take (i := 0) (oi := o0) (v := .slice (some ⟨b, off, none⟩) l.length cap) rfl hsel (hfr 0 (by decide)).1 (hfr 0 (by decide)).2 (hQ _ _) (yields_of g0 (fun w => by rw [← hv]; exact run_mv p0)) ?_
  rw [t0]
  generalize ha1 : a.put (some d.d0) (.slice (some ⟨b, off, none⟩) l.length cap) = a1
  have s1 : a1.tmps.size = a.tmps.size := by rw [← ha1, size_put]
  have f1 : ∀ s, a1.tmps.getD s undef = if s = d.d0 then .slice (some ⟨b, off, none⟩) l.length cap else a.tmps.getD s undef := fun s => by rw [← ha1]; exact put_at z2
  -- 1
  refine wpAny_take (i := 1) (oi := o1) (v := .int .i64 i) rfl hsel (hfr 1 (by decide)).1 (hfr 1 (by decide)).2 (hQ _ _) (yields_of g1 (fun w => by
    have := run_mv (P := P) (a := a1) (w := w) p1; rw [f1, if_neg n1_2, hjv] at this; exact this)) ?_
  rw [t1]
  generalize ha2 : a1.put (some d.d1) (.int .i64 i) = a2
  have s2 : a2.tmps.size = a.tmps.size := by rw [← ha2, size_put, s1]
  have f2 : ∀ s, a2.tmps.getD s undef = if s = d.d1 then .int .i64 i else a1.tmps.getD s undef := fun s => by rw [← ha2]; exact put_at (by rw [s1]; exact z3)
  -- 2
  refine wpAny_take (i := 2) (oi := o2) (v := .slice (some ⟨b, off, none⟩) i cap) rfl hsel (hfr 2 (by decide)).1 (hfr 2 (by decide)).2 (hQ _ _) (yields_of g2 (fun w =>
    run_cutHi (n := l.length) hu hel p2 (by rw [f2, if_neg n2_3, f1, if_pos rfl]) (by rw [f2, if_pos rfl]) (by omega))) ?_
  rw [t2]
  generalize ha3 : a2.put (some d.d2) (.slice (some ⟨b, off, none⟩) i cap) = a3
  have s3 : a3.tmps.size = a.tmps.size := by rw [← ha3, size_put, s2]
  have f3 : ∀ s, a3.tmps.getD s undef = if s = d.d2 then .slice (some ⟨b, off, none⟩) i cap else a2.tmps.getD s undef := fun s => by rw [← ha3]; exact put_at (by rw [s2]; exact z4)
  -- 3
  refine wpAny_take (i := 3) (oi := o3) (v := .slice (some ⟨b, off, none⟩) l.length cap) rfl hsel (hfr 3 (by decide)).1 (hfr 3 (by decide)).2 (hQ _ _) (yields_of g3 (fun w => by
    have := run_mv (P := P) (a := a3) (w := w) p3; rw [f3, if_neg n0_4, f2, if_neg n0_3, f1, if_neg n0_2, hv] at this; exact this)) ?_
  rw [t3]
  generalize ha4 : a3.put (some d.d3) (.slice (some ⟨b, off, none⟩) l.length cap) = a4
  have s4 : a4.tmps.size = a.tmps.size := by rw [← ha4, size_put, s3]
  have f4 : ∀ s, a4.tmps.getD s undef = if s = d.d3 then .slice (some ⟨b, off, none⟩) l.length cap else a3.tmps.getD s undef := fun s => by rw [← ha4]; exact put_at (by rw [s3]; exact z5)
  -- 4
  refine wpAny_take (i := 4) (oi := o4) (v := .int .i64 i) rfl hsel (hfr 4 (by decide)).1 (hfr 4 (by decide)).2 (hQ _ _) (yields_of g4 (fun w => by
    have := run_mv (P := P) (a := a4) (w := w) p4; rw [f4, if_neg n1_5, f3, if_neg n1_4, f2, if_neg n1_3, f1, if_neg n1_2, hjv] at this; exact this)) ?_
  rw [t4]
  generalize ha5 : a4.put (some d.d4) (.int .i64 i) = a5
  have s5 : a5.tmps.size = a.tmps.size := by rw [← ha5, size_put, s4]
  have f5 : ∀ s, a5.tmps.getD s undef = if s = d.d4 then .int .i64 i else a4.tmps.getD s undef := fun s => by rw [← ha5]; exact put_at (by rw [s4]; exact z6)
  -- 5
  refine wpAny_take (i := 5) (oi := o5) (v := .int .i64 ((i + 1 : Nat) : Int)) rfl hsel (hfr 5 (by decide)).1 (hfr 5 (by decide)).2 (hQ _ _) (yields_of g5 (fun w =>
    run_inc p5 (by rw [f5, if_pos rfl]) (by omega))) ?_
  rw [t5]
  generalize ha6 : a5.put (some d.d5) (.int .i64 ((i + 1 : Nat) : Int)) = a6
  have s6 : a6.tmps.size = a.tmps.size := by rw [← ha6, size_put, s5]
  have f6 : ∀ s, a6.tmps.getD s undef = if s = d.d5 then .int .i64 ((i + 1 : Nat) : Int) else a5.tmps.getD s undef := fun s => by rw [← ha6]; exact put_at (by rw [s5]; exact z7)
  -- 6
  refine wpAny_take (i := 6) (oi := o6) (v := .slice (some ⟨b, if cap = i + 1 then off else off + (i + 1) * e.sz, none⟩) (l.length - (i + 1)) (cap - (i + 1))) rfl hsel (hfr 6 (by decide)).1 (hfr 6 (by decide)).2 (hQ _ _) (yields_of g6 (fun w =>
    run_cutLo (n := l.length) (cap := cap) (i := i + 1) hu hel p6 (by rw [f6, if_neg n5_7, f5, if_neg n5_6, f4, if_pos rfl]) (by rw [f6, if_pos rfl]) (by omega))) ?_
  rw [t6]
  generalize ha7 : a6.put (some d.d6) (.slice (some ⟨b, if cap = i + 1 then off else off + (i + 1) * e.sz, none⟩) (l.length - (i + 1)) (cap - (i + 1))) = a7
  have s7 : a7.tmps.size = a.tmps.size := by rw [← ha7, size_put, s6]
  have f7 : ∀ s, a7.tmps.getD s undef = if s = d.d6 then .slice (some ⟨b, if cap = i + 1 then off else off + (i + 1) * e.sz, none⟩) (l.length - (i + 1)) (cap - (i + 1)) else a6.tmps.getD s undef := fun s => by rw [← ha7]; exact put_at (by rw [s6]; exact z8)
  -- 7
  refine wpAny_all hr7 (by simp) (fun j hj => ?_)
  obtain rfl : j = 7 := by simpa using hj
  have hm2 : (i + 1) * e.sz ≤ l.length * e.sz := Nat.mul_le_mul_right _ hi
  have hm1 : i * e.sz + e.sz = (i + 1) * e.sz := by rw [Nat.add_mul, Nat.one_mul]
  have hm3 : l.length * e.sz ≤ cap * e.sz := Nat.mul_le_mul_right _ hcap
  have hm4 : (l.length - (i + 1)) * e.sz = l.length * e.sz - (i + 1) * e.sz := Nat.sub_mul ..
  have happ : (execOp a7.eval o7).run P w1 = .ok (.value (.slice (some ⟨b, off, none⟩) (l.length - 1) cap)) (w1.setCells b (off + i * e.sz) (((c.toList.drop off).take (l.length * e.sz)).drop ((i + 1) * e.sz))) := by
    obtain ⟨inf, dd, hinf, hsize, hz, hby, _⟩ := hel
    have hheap1 : w1.heap[b]? = some (.cells c elx (0, 0)) := by rw [← hw1]; exact hheap
    have hys : ∀ k u, (((c.toList.drop off).take (l.length * e.sz)).drop ((i + 1) * e.sz))[k]? = some u → c[off + (i + 1) * e.sz + k]? = some u := by
      intro k u hk
      rw [List.getElem?_drop, List.getElem?_take] at hk
      split at hk
      · rw [List.getElem?_drop] at hk
        rw [← Array.getElem?_toList]
        rw [← hk]; congr 1; omega
      · cases hk
    have hyl : (((c.toList.drop off).take (l.length * e.sz)).drop ((i + 1) * e.sz)).length = (l.length - (i + 1)) * e.sz := by
      simp; omega
    have hr := run_append_room_cells (P := P) w1 d.t o7.type el inf hu hinf b off i cap ⟨b, if cap = i + 1 then off else off + (i + 1) * e.sz, none⟩ (l.length - (i + 1)) (cap - (i + 1))
      (((c.toList.drop off).take (l.length * e.sz)).drop ((i + 1) * e.sz)) (by rw [hsize]; exact hyl) (fun k u hk => by
        have hlt : k < (((c.toList.drop off).take (l.length * e.sz)).drop ((i + 1) * e.sz)).length := (List.getElem?_eq_some_iff.1 hk).1
        have hne : cap ≠ i + 1 := by
          intro hc
          have : l.length - (i + 1) = 0 := by omega
          rw [hyl, this] at hlt
          omega
        rw [if_neg hne, Addr.add_lit, cell_row hheap1]
        exact hys k u hk) (fun u hu => h1c u (List.mem_of_mem_drop hu)) (by omega)
      (fun k hk => by rw [cell_row hheap1, hsize]; rw [hyl] at hk; have : off + i * e.sz + k < c.size := by omega
                      simp [this]) (fun k hk => frozen_row hheap1 _)
    rw [hsize] at hr
    have e1 : a7.eval (.tmp d.d2) = .slice (some ⟨b, off, none⟩) i cap := by
      show a7.tmps.getD d.d2 undef = _
      rw [f7, if_neg n4_8, f6, if_neg n4_7, f5, if_neg n4_6, f4, if_neg n4_5, f3, if_pos rfl]
    have e2 : a7.eval (.tmp d.d6) = .slice (some ⟨b, if cap = i + 1 then off else off + (i + 1) * e.sz, none⟩) (l.length - (i + 1)) (cap - (i + 1)) := by
      show a7.tmps.getD d.d6 undef = _
      rw [f7, if_pos rfl]
    have hn1 : i + (l.length - (i + 1)) = l.length - 1 := by omega
    rw [hn1] at hr
    simp only [execOp, p7]
    simp [resolve, pc, invoke, builtin, pa, pt, e1, e2, hr]
  refine wpOp_of_value (ops := [o0, o1, o2, o3, o4, o5, o6, o7, o8]) (i := 7) rfl (by simp [Region.wanted, g7]) ?_
  unfold Oper.wp
  rw [happ]
  rw [Oper.upon_value, t7]
  generalize ha8 : a7.put (some d.d7) (.slice (some ⟨b, off, none⟩) (l.length - 1) cap) = a8
  have s8 : a8.tmps.size = a.tmps.size := by rw [← ha8, size_put, s7]
  have f8 : ∀ s, a8.tmps.getD s undef = if s = d.d7 then .slice (some ⟨b, off, none⟩) (l.length - 1) cap else a7.tmps.getD s undef := fun s => by rw [← ha8]; exact put_at (by rw [s7]; exact z9)
  -- 8
  refine wpAny_all hr8 (by simp) (fun j hj => ?_)
  obtain rfl : j = 8 := by simpa using hj
  refine wpOp_of_value (ops := [o0, o1, o2, o3, o4, o5, o6, o7, o8]) (i := 8) rfl (by simp [Region.wanted, g8]) ?_
  unfold Oper.wp
  rw [run_asg p8, f8, if_pos rfl, Oper.upon_value, t8]
  refine ⟨hr9, rfl, ?_⟩
  have hw2 : w1.setCells b (off + i * e.sz) (((c.toList.drop off).take (l.length * e.sz)).drop ((i + 1) * e.sz)) = { w.setCells b (off + i * e.sz) (((c.toList.drop off).take (l.length * e.sz)).drop ((i + 1) * e.sz)) with drawn := w.drawn + 1 } := by
    rw [← hw1]; exact setCells_drawn ..
  rw [hw2]
  have hI2 := hI'.drawn (w.drawn + 1)
  have hrow2 : RowOk { w.setCells b (off + i * e.sz) (((c.toList.drop off).take (l.length * e.sz)).drop ((i + 1) * e.sz)) with drawn := w.drawn + 1 } G' e (l.take i ++ l.drop (i + 1)) (.slice (some ⟨b, off, none⟩) (l.length - 1) cap) (.row tk [tk] true) :=
    RowOk.agree (w := w.setCells b (off + i * e.sz) (((c.toList.drop off).take (l.length * e.sz)).drop ((i + 1) * e.sz))) (G := G') ⟨fun _ _ => rfl, fun _ _ => rfl, fun _ _ => rfl⟩ hrow'
  have k0 := hI2.putNo' (some d.d0) (.slice (some ⟨b, off, none⟩) l.length cap)
  rw [ha1] at k0
  have k1 := k0.putNo' (some d.d1) (.int .i64 i)
  rw [ha2] at k1
  have k2 := k1.putNo' (some d.d2) (.slice (some ⟨b, off, none⟩) i cap)
  rw [ha3] at k2
  have k3 := k2.putNo' (some d.d3) (.slice (some ⟨b, off, none⟩) l.length cap)
  rw [ha4] at k3
  have k4 := k3.putNo' (some d.d4) (.int .i64 i)
  rw [ha5] at k4
  have k5 := k4.putNo' (some d.d5) (.int .i64 ((i + 1 : Nat) : Int))
  rw [ha6] at k5
  have k6 := k5.putNo' (some d.d6) (.slice (some ⟨b, if cap = i + 1 then off else off + (i + 1) * e.sz, none⟩) (l.length - (i + 1)) (cap - (i + 1)))
  rw [ha7] at k6
  have k7 := k6.putNo' (some d.d7) (.slice (some ⟨b, off, none⟩) (l.length - 1) cap)
  rw [ha8] at k7
  have hgood : ∀ c' ∈ (SV.d ⟨.sl e, l.take i ++ l.drop (i + 1), .sl (.row tk [tk] true)⟩).sc, 0 < c' ∧ (c' < N ∨ c' = tk) ∧ G'.bx c' = false := by
    intro c' hc'
    simp only [SV.sc, Sh.cols, M.cols, List.mem_cons, List.not_mem_nil, or_false, or_self] at hc'
    subst hc'
    exact ⟨by omega, .inr rfl, hbx'⟩
  have k8 := k7.put (some d.s) (sv := .d ⟨.sl e, l.take i ++ l.drop (i + 1), .sl (.row tk [tk] true)⟩) (v := .slice (some ⟨b, off, none⟩) (l.length - 1) cap) ⟨[_], rfl, _, rfl, hrow2⟩ hgood (by simp [SV.bt]) (by simp [SV.rt]) (by rintro _ _ ⟨⟩)
  refine hK _ _ _ k8 (fun x hx => ?_)
  simp only [DelD.outs, List.mem_cons, List.not_mem_nil, or_false, not_or] at hx
  obtain ⟨x0, x2, x3, x4, x5, x6, x7, x8, x9⟩ := hx
  rw [put_at (by rw [s8]; exact z0), if_neg x0, f8, if_neg x9, f7, if_neg x8, f6, if_neg x7, f5, if_neg x6, f4, if_neg x5, f3, if_neg x4, f2, if_neg x3, f1, if_neg x2]


theorem del_outs {ops : List Oper} {d : DelD} (h : delOf ops = some d) : ∀ x ∈ d.outs, ∃ o ∈ ops, o.dst = some x := by
  have h' : delOf ops.toArray.toList = some d := by simpa using h
  obtain ⟨o0, o1, o2, o3, o4, o5, o6, o7, o8, he, q0, q1, q2, q3, q4, q5, q6, q7, q8, _⟩ := delOf_spec h'
  have he' : ops = [o0, o1, o2, o3, o4, o5, o6, o7, o8] := by
    have := congrArg Array.toList he
    simpa using this
  subst he'
  intro x hx
  simp only [DelD.outs, List.mem_cons, List.not_mem_nil, or_false] at hx
  rcases hx with rfl | rfl | rfl | rfl | rfl | rfl | rfl | rfl | rfl
  · exact ⟨o8, by simp, (asgOf_spec q8).2.2⟩
  · exact ⟨o0, by simp, (mvOf_spec q0).2.2⟩
  · exact ⟨o1, by simp, (mvOf_spec q1).2.2⟩
  · exact ⟨o2, by simp, (slHi_spec q2).2.2⟩
  · exact ⟨o3, by simp, (mvOf_spec q3).2.2⟩
  · exact ⟨o4, by simp, (mvOf_spec q4).2.2⟩
  · exact ⟨o5, by simp, (incOf_spec q5).2.2⟩
  · exact ⟨o6, by simp, (slLo_spec q6).2.2⟩
  · exact ⟨o7, by simp, (appOf_spec q7).2.2⟩

theorem keeps_no {io : List Nat} {ops : List Oper} (h : keeps io ops = true) {o : Oper} (ho : o ∈ ops) {x : Nat} (hx : o.dst = some x) : x ∉ io := by
  unfold keeps at h
  rw [List.all_eq_true] at h
  have := h o ho
  rw [hx] at this
  simpa using this

theorem delE_len {d : DelD} {ts : List Nat} {tk : Nat} {e : Ty} {l : List e.den} {i : Nat} : (delE E d ts tk e l i).s.length = E.s.length := by
  simp only [delE, Env.set, List.length_set]
  unfold Env.kill
  split
  · rfl
  · simp

theorem set_noG {E : Env} {d : Nat} {sv : SV} (h : NoG E.s) (hs : ∀ j w act v, sv ≠ .g j w act v) : NoG (E.set (some d) sv).s := by
  intro s j w act v
  simp only [Env.set, get_set]
  split
  · exact hs j w act v
  · exact h s j w act v

theorem delE_noG {d : DelD} {ts : List Nat} {tk : Nat} {e : Ty} {l : List e.den} {i : Nat} (h : NoG E.s) : NoG (delE E d ts tk e l i).s := by
  have h0 : NoG (E.kill ts).s := by
    intro s j w act v he
    obtain ⟨v', h'⟩ := kill_g he
    exact h s j w act v' h'
  unfold delE
  refine set_noG ?_ (by rintro _ _ _ _ ⟨⟩)
  iterate 8 refine set_noG ?_ (by rintro _ _ _ _ ⟨⟩)
  exact h0

section
variable {ρ : Type}
def delStep (C : Cx) (d : DelD) (n : Nat) (E : Env) (kn : Env → Option ρ) : Option ρ :=
  match C.tt d.t, E.s.getD d.s .no, E.get d.j with
  | some ⟨.sl e, _, _⟩, .d ⟨.sl e', l', .sl m⟩, .d ⟨.int .i64, i, _⟩ => (match castV ⟨.sl e', l', .leaf⟩ (.sl e), m.own with
    | some l, some ts => if decide (0 ≤ i ∧ i < (((l : List e.den).length : Nat) : Int) ∧ (l : List e.den).length < 4294967296) = true then
        (match d.tmps.all (fun x => decide (x < E.s.length)) with
        | true => kn { delE E d ts E.nt e l i.toNat with nt := E.nt + 32 * n }
        | false => none)
      else none
    | _, _ => none)
  | _, _, _ => none
end

theorem delStep_ok {ρ : Type} (hC : CxTy P C) (hm : P.follows .mixedOrders = true) (hI : Inv w0 c0 (fun u => u < E.nt) E a w G) (hg : NoG E.s) (h3 : 3 ≤ E.nt) {ops : Array Oper} {d : DelD} (hd : delOf ops.toList = some d) (hn : 0 < ops.size)
    {io : List Nat} (hkp : keeps io ops.toList = true) {kn : Env → Option ρ} {r : ρ} (h : delStep C d ops.size E kn = some r) {id : Nat}
    (hK : ∀ E' a' w' G', Inv w0 c0 (fun u => u < E'.nt) E' a' w' G' → NoG E'.s → E'.s.length = E.s.length → 3 ≤ E'.nt → (∀ i ∈ io, a'.tmps.getD i undef = a.tmps.getD i undef) → kn E' = some r → Q .normal a' w') :
    (Code.region id ops true).wp P Q a w := by
  unfold delStep at h
  split at h
  · rename_i e fs el e' l' m i sh ht hs hj
    split at h
    · rename_i l ts hcast ho
      have hcv := castV_ok hcast
      simp only [TV.mk.injEq] at hcv
      obtain ⟨he, hl, _⟩ := hcv
      cases he
      cases hl
      split at h
      · rename_i hc
        obtain ⟨hc0', hc1', hc2⟩ := of_decide_eq_true hc
        have hc0 : @LE.le Int Int.instLEInt 0 i := hc0'
        have hc1 : @LT.lt Int Int.instLTInt i ((List.length l : Nat) : Int) := hc1'
        split at h
        · rename_i hsz
          rw [List.all_eq_true] at hsz
          have hi0 : ((i.toNat : Nat) : Int) = i := Int.toNat_of_nonneg hc0
          refine del_region hC hm hI hd ht hs (i := i.toNat) (sh := sh) (by rw [hi0]; exact hj) ho (by omega) hc2 (fun x hx => of_decide_eq_true (hsz x hx)) h3 (Nat.le_refl _) (fun a' w' G' g1 g2 => ?_)
          refine hK { delE E d ts E.nt _ l i.toNat with nt := E.nt + 32 * ops.size } a' w' G' ?_ (delE_noG hg) delE_len (by show 3 ≤ E.nt + 32 * ops.size; omega) (fun j hj => g2 j (fun hin => ?_)) h
          · have := g1.mono (U' := fun u => u < E.nt + 32 * ops.size) (fun u hu => by rcases hu with hu | hu <;> omega)
            exact { this with }
          · obtain ⟨o, ho', hx⟩ := del_outs hd j hin
            exact keeps_no hkp ho' hx hj
        · cases h
      · cases h
    · cases h
  · cases h

end
end Vg

/- VG, part 63: the evaluator with calls that write into what they are handed. -/
namespace Vg
open Go

abbrev MTab := FuncId → Option MCon

/-- A call of a function that writes into what it is handed: its contract, the slots of its arguments. -/
def callOf (M : MTab) (o : Oper) : Option (FuncId × MCon × Nat × Nat) :=
  match o.guard, o.op with
  | none, .call c => (match c.callee, c.args.toList with
    | .value (.func f), [.tmp s, .tmp j] => (match M f with | some m => some (f, m, s, j) | none => none)
    | _, _ => none)
  | _, _ => none

/-- A load of a part of an element that is handed on at once: the contract, the pointer's slot, the number's slot, the slots that are written. -/
def nestOf (M : MTab) (o1 o2 o3 : Oper) : Option (FuncId × MCon × TypeId × Nat × Nat × Nat × Nat) :=
  match o1.guard, o1.op, o1.dst, o2.guard, o2.op, o2.dst with
  | none, .load t (.tmp p), some d1, none, .move (.tmp q), some d2 => (match callOf M o3 with
    | some (f, m, s, j) => (match decide (s = d1 ∧ j = d2 ∧ d1 ≠ d2 ∧ q ≠ d1) with | true => some (f, m, t, p, q, d1, d2) | false => none)
    | none => none)
  | _, _, _, _, _, _ => none

inductive MStp where
  | one (o : Oper)
  | nest (o1 o2 o3 : Oper)

def MStp.ops : MStp → List Oper
  | .one o => [o]
  | .nest o1 o2 o3 => [o1, o2, o3]

def steps (M : MTab) : List Oper → List MStp
  | o1 :: o2 :: o3 :: l => match nestOf M o1 o2 o3 with
    | some _ => .nest o1 o2 o3 :: steps M l
    | none => .one o1 :: steps M (o2 :: o3 :: l)
  | [o1, o2] => [.one o1, .one o2]
  | [o1] => [.one o1]
  | [] => []

theorem steps_ops (M : MTab) : ∀ l : List Oper, (steps M l).flatMap MStp.ops = l
  | o1 :: o2 :: o3 :: l => by
    simp only [steps]
    split
    · simp only [List.flatMap_cons, MStp.ops, steps_ops M l]; rfl
    · simp only [List.flatMap_cons, MStp.ops, steps_ops M (o2 :: o3 :: l)]; rfl
  | [_, _] => rfl
  | [_] => rfl
  | [] => rfl

/-- What a slot holds that may be written into. -/
def topA (m : MCon) (s j : Nat) (E : Env) : Option (m.τ.den × Sh × Int) :=
  match E.get s, E.get j with
  | .d v, .d ⟨.int .i64, n, _⟩ => (match castV v m.τ, ownT v.sh with
    | some x, some _ => some (x, v.sh, n)
    | _, _ => none)
  | _, _ => none

structure NestD (m : MCon) where
  b : Nat
  e : Ty
  l : List e.den
  i : Int
  path : List Bool
  x : m.τ.den
  n : Int

def nestA (tt : TypeId → Option TI) (m : MCon) (t : TypeId) (p q d1 d2 : Nat) (E : Env) : Option (NestD m) :=
  match tt t, E.get p, E.get q with
  | some ti, .ept b e i o path _, .d ⟨.int .i64, n, _⟩ => (match findRow b e E.s with
    | some (l, hs, nd) => (match nd && hs.all (· == b) && decide (e.off path = o) && decide (ti.τ = m.τ) && decide (d1 < E.s.length ∧ d2 < E.s.length), subV e (l.getD i.toNat e.dflt) (shOf e (.sha [])) path with
      | true, some r => (match castV r m.τ with | some x => some ⟨b, e, l, i, path, x, n⟩ | none => none)
      | _, _ => none)
    | none => none)
  | _, _, _ => none

/-- The same of a box's part. -/
def ptrA (tt : TypeId → Option TI) (m : MCon) (t : TypeId) (p q d1 d2 : Nat) (E : Env) : Option (m.τ.den × Sh × Int) :=
  match tt t, alias_ (E.get p), E.get q with
  | some ti, .ptr b o path _, .d ⟨.int .i64, n, _⟩ => (match findBox E.s b 0 with
    | some (_, v) => (match decide (v.τ.off path = o) && decide (ti.τ = m.τ) && decide (d1 < E.s.length ∧ d2 < E.s.length), subV v.τ v.x v.sh path with
      | true, some r => (match castV r m.τ, ownT r.sh with | some x, some _ => some (x, r.sh, n) | _, _ => none)
      | _, _ => none)
    | none => none)
  | _, _, _ => none

def isPtr : SV → Bool
  | .ptr .. => true
  | _ => false

/-- A constant of a type that is not told. -/
def untold (C : Cx) (o : Oper) : Bool :=
  match o.guard, o.op with
  | none, .assign (.const _) => (C.tt o.type).isNone
  | _, _ => false

/-- An element is written, and what was written shares in its row. -/
def Env.elem2 (E : Env) (gv : List Nat) (b : Nat) (e : Ty) (l : List e.den) : Env :=
  { E with s := E.s.map fun s => (((s.killSha b).setRow b e l (.row b (b :: gv) true)).give gv b) }

section
variable {ρ : Type}
def applyEf3 (o : Oper) (a : Option Bool) (E : Env) (k : Env → Option ρ) (ef : Ef) : Option ρ :=
  match ef, a with
  | .call _ x tks f rp, some b => if b = true then x.bind (fun r => k (Env.set { E.killR tks (rp r) with s := putBoxes (f r).2 (E.killR tks (rp r)).s } o.dst (wrapG o.guard (some true) (f r).1))) else k (E.set o.dst (wrapG o.guard (some false) (vB false)))
  | .elem (g :: gv) b e l _, none => (match o.dst, o.op with | none, .store _ _ _ => k (E.elem2 (g :: gv) b e l) | _, _ => none)
  | ef, a => applyEf2 o a E k ef

def evStps (C : Cx) (M : MTab) (ops : List Oper) (nt : Nat) : List MStp → Nat → Env → (Env → Option ρ) → Option ρ
  | [], _, E, k => k E
  | .one o :: l, i, E, k => match callOf M o with
    | some (_, m, s, j) => (match topA m s j E with
      | some (x, sh, n) => (m.F x n).bind fun r => evStps C M ops nt l (i + 1) ((E.mark (rowsOf m.τ r.2 sh)).set o.dst (vI .i64 r.1)) k
      | none => none)
    | none => match untold C o with
      | true => evStps C M ops nt l (i + 1) (E.set o.dst .no) k
      | false => match guardOf ops E.rd o.guard with
        | none => none
        | some a => match evOp C ops E.rd (nt + 32 * i) o.guard o with
          | none => none
          | some ef => applyEf3 o a E (fun E' => evStps C M ops nt l (i + 1) E' k) ef
  | .nest o1 o2 o3 :: l, i, E, k => match nestOf M o1 o2 o3 with
    | some (_, m, t, p, q, d1, d2) => match isPtr (alias_ (E.get p)) with
      | true => (match ptrA C.tt m t p q d1 d2 E with
        | some (x, sh, n) => (m.F x n).bind fun r => evStps C M ops nt l (i + 3) ((((E.mark (rowsOf m.τ r.2 sh)).set (some d1) .no).set (some d2) .no).set o3.dst (vI .i64 r.1)) k
        | none => none)
      | false => (match nestA C.tt m t p q d1 d2 E with
        | some d => (m.F d.x d.n).bind fun r => match putV d.e (d.l.getD d.i.toNat d.e.dflt) (shOf d.e (.sha [])) d.path ⟨m.τ, r.2, shOf m.τ (.sha [])⟩ with
          | some y => evStps C M ops nt l (i + 3) ((((E.mark [⟨d.b, d.e, d.l.set d.i.toNat y.1⟩]).set (some d1) .no).set (some d2) .no).set o3.dst (vI .i64 r.1)) k
          | none => none
        | none => none)
    | none => none

def evM (C : Cx) (M : MTab) : Code → Env → (Env → Option ρ) → List (Nat × (Env → Option ρ)) → (Env → Option ρ) → Option ρ
  | .skip, E, kn, _, _ => kn E
  | .region _ ops draw, E, kn, _, _ => match guardsOk ops.toList && keeps C.io ops.toList with
    | true => (match draw with
      | true => (match delOf ops.toList with
        | some d => delStep C d ops.size E kn
        | none => evOpsL2 C ops.toList E.nt ops.toList 0 E [] (fun E' L => match labsOk ops.toList L with | true => kn { clearG E' ops.toList with nt := E.nt + 32 * ops.size } | false => none))
      | false => evStps C M ops.toList E.nt (steps M ops.toList) 0 E (fun E' => kn { clearG E' ops.toList with nt := E.nt + 32 * ops.size }))
    | false => none
  | .seq a b, E, kn, ke, kr =>
    match (firstReg b).bind C.ja with
    | none => evM C M a E (fun E' => evM C M b E' kn ke kr) ke kr
    | some n => joinC (fun J => evM C M a E (fun E' => match proj n E' with | some t => J t | none => none) ke kr) (fun t => evM C M b (unproj C.n n t) kn ke kr)
  | .cond c x y, E, kn, ke, kr =>
    match arg C E.rd none 0 c with
    | some (.d ⟨.bool, b, _⟩) => if b = true then evM C M x E kn ke kr else evM C M y E kn ke kr
    | _ => none
  | .block id c, E, kn, ke, kr => evM C M c E kn ((id, kn) :: ke) kr
  | .loop c, E, _, ke, kr =>
    match (firstReg c).bind C.la with
    | none => none
    | some n => match proj n E with
      | some t => loopN C.k (fun G t => evM C M c (unproj C.n n t) (fun E' => match proj n E' with | some t => G t | none => none) ke kr) t
      | none => none
  | .exit id, E, _, ke, _ => match ke.lookup id with | some k => k E | none => none
  | .ret, E, _, _, kr => kr E
  | _, _, _, _, _ => none
end

/-- All contracts hold. -/
def MTabOk (P : Program) (M : MTab) : Prop := ∀ f m, M f = some m → MMeets P f m

section
variable {P : Program} {C : Cx} {M : MTab} {w0 : World} {c0 : C0} {U : Nat → Prop} {E : Env} {a : Act} {w : World} {G : Gh} {ops : List Oper} {L : Nat → Prop} {Q : Exit → Act → World → Prop} {ρ : Type}

theorem callOf_spec {o : Oper} {f : FuncId} {m : MCon} {s j : Nat} (h : callOf M o = some (f, m, s, j)) :
    o.guard = none ∧ M f = some m ∧ ∃ c : Call, o.op = .call c ∧ c.callee = .value (.func f) ∧ c.args.toList = [.tmp s, .tmp j] := by
  unfold callOf at h
  split at h
  · rename_i c hg ho
    split at h
    · rename_i f' s' j' hc ha
      split at h
      · rename_i m' hm
        cases h
        exact ⟨hg, hm, c, ho, hc, ha⟩
      · cases h
    · cases h
  · cases h

theorem nestOf_spec {o1 o2 o3 : Oper} {f : FuncId} {m : MCon} {t : TypeId} {p q d1 d2 : Nat} (h : nestOf M o1 o2 o3 = some (f, m, t, p, q, d1, d2)) :
    o1.guard = none ∧ o1.op = .load t (.tmp p) ∧ o1.dst = some d1 ∧ o2.guard = none ∧ o2.op = .move (.tmp q) ∧ o2.dst = some d2 ∧ d1 ≠ d2 ∧ q ≠ d1 ∧ callOf M o3 = some (f, m, d1, d2) := by
  unfold nestOf at h
  split at h
  · rename_i t' p' d1' q' d2' h1 h2 h3 h4 h5 h6
    split at h
    · rename_i f' m' s' j' hc
      split at h
      · rename_i hd
        simp only [decide_eq_true_eq] at hd
        cases h
        obtain ⟨rfl, rfl, e1, e2⟩ := hd
        exact ⟨h1, h2, h3, h4, h5, h6, e1, e2, hc⟩
      · cases h
    · cases h
  · cases h

theorem wp_of_upon {o : Oper} {c : Call} {f : FuncId} (ho : o.op = .call c) (hc : c.callee = .value (.func f)) {R : Value → World → Prop} {K : Act → World → Prop} (h : Upon P f (c.args.map a.eval) w R)
    (hK : ∀ v w', R v w' → K (a.put o.dst v) w') : o.wp P a w K Q := by
  have hrun : (execOp a.eval o).run P w = (callFunc f (c.args.map a.eval)).run P w := by
    simp only [execOp, ho]
    simp [resolve, hc, Deferred.ofValue, Act.eval, invoke]
  refine wp_of_enters (R := R) ?_ hK
  rw [hrun]
  exact h

theorem slot_int (hI : Inv w0 c0 U E a w G) {j : Nat} {n : Int} {sh : Sh} (h : E.get j = .d ⟨.int .i64, n, sh⟩) : a.tmps.getD j undef = .int .i64 n := by
  have hs := hI.slots j
  have h' : E.s.getD j .no = .d ⟨.int .i64, n, sh⟩ := h
  rw [h'] at hs
  obtain ⟨cs, h1, h2⟩ := hs
  cases sh with
  | leaf => rw [h1, show cs = _ from h2]; rfl
  | sl m => exact h2.elim
  | pair a b => exact h2.elim

theorem mark_noG {L' : List RowW} : ∀ s j w act v, (E.mark L').s.getD s .no ≠ .g j w act v := by
  intro s j w act v
  have := getD_map (L := E.s) (T := SV.mark L') rfl s
  show (E.s.map (SV.mark L')).getD s .no ≠ _
  rw [this]
  exact mark_g

theorem set_ng {E : Env} {d : Option Nat} {sv : SV} (h : ∀ s j w act v, E.s.getD s .no ≠ .g j w act v) (hs : ∀ j w act v, sv ≠ .g j w act v) : ∀ s j w act v, (E.set d sv).s.getD s .no ≠ .g j w act v := by
  intro s j w act v
  cases d with
  | none => exact h s j w act v
  | some d =>
    simp only [Env.set, get_set]
    split
    · exact hs j w act v
    · exact h s j w act v

theorem mark_len (L' : List RowW) : (E.mark L').s.length = E.s.length := by simp [Env.mark]

theorem Inv.putI (hI : Inv w0 c0 U E a w G) (d : Option Nat) (n : Int) : Inv w0 c0 U (E.set d (vI .i64 n)) (a.put d (.int .i64 n)) w G := by
  have hm := ment_int (U := U) (G := G) .i64 n
  exact hI.put d (ok_int .i64 n) hm.1 hm.2.1 hm.2.2 (by rintro _ _ ⟨⟩)

theorem Inv.putNo (hI : Inv w0 c0 U E a w G) (d : Option Nat) (v : Value) : Inv w0 c0 U (E.set d .no) (a.put d v) w G :=
  hI.put d (sv := .no) trivial (by simp [SV.sc]) (by simp [SV.bt]) (by simp [SV.rt]) (by rintro _ _ ⟨⟩)

theorem putI_act (d : Option Nat) (v : Value) (s : Nat) (h : d ≠ some s) : (a.put d v).tmps.getD s undef = a.tmps.getD s undef := by
  cases d with
  | none => rfl
  | some d =>
    have : d ≠ s := fun e => h (by rw [e])
    simp [Act.put, Array.getD_eq_getD_getElem?, Array.getElem?_setIfInBounds_ne this]

end
end Vg

/- VG, part 64: the soundness of the evaluator with calls that write into what they are handed. -/
namespace Vg
open Go

section
variable {P : Program} {C : Cx} {M : MTab} {g : Option (Nat × Bool)} {w0 : World} {c0 : C0} {U : Nat → Prop} {E : Env} {a : Act} {w : World} {G : Gh} {ops : List Oper} {L : Nat → Prop} {Q : Exit → Act → World → Prop} {ρ : Type}

theorem elem2_ok (hC : CxTy P C) (hI : Inv w0 c0 U E a w G) (hR : RI ops E a.tmps) (hg : Gd ops a.tmps g) {tk : Nat} {o : Oper} {t : TypeId} {x y : Operand}
    {gv : List Nat} {b : Nat} {e : Ty} {l' : List e.den} {m : Vg.M} (ho : o.op = .store t x y) (hgne : gv ≠ []) (h0 : evOp C ops E.rd tk g o = some (.elem gv b e l' m)) :
    ∃ w' G', (execOp a.eval o).run P w = .ok .skip w' ∧ Inv w0 c0 U (E.elem2 gv b e l') a w' G' := by
  have h := evOp_elem h0
  simp only [evOp0, ho] at h
  split at h
  · split at h
    · split at h
      · obtain ⟨r, _, h⟩ := Option.map_eq_some_iff.mp h
        cases h
      · cases h
    · cases h
  · rename_i ti b1 e1 i off p τ1 v1 hti harg hv
    split at h
    · rename_i l hs nd hrow
      obtain ⟨hc, h⟩ := Option.ite_none_right_eq_some.mp h
      obtain ⟨hno, h⟩ := Option.ite_none_left_eq_some.mp h
      obtain ⟨r, hr, h⟩ := Option.map_eq_some_iff.mp h
      simp only [Ef.elem.injEq] at h
      obtain ⟨hgv, rfl, rfl, hl', hm⟩ := h
      have hl' := eq_of_heq hl'
      subst hl'
      simp only [Bool.and_eq_true, decide_eq_true_eq] at hc
      obtain ⟨⟨⟨hc1, hc2⟩, hc3⟩, hc4⟩ := hc
      obtain ⟨h1, _⟩ := arg_ok hI hR hg harg
      obtain ⟨bk, of, n, cap, hb3, k2, k3, k4, k5⟩ := h1
      obtain ⟨⟨vh, hvh⟩, hgood⟩ := hI.findRow hrow
      obtain ⟨⟨cv, hcv, hvv⟩, hvg, hlive⟩ := argD_ok hI hR hg hv
      have hvh0 : vh = G.hdr b1 := hvh.2.1.symm
      have hno' := hno
      simp only [Bool.not_eq_true] at hno'
      obtain ⟨q1, q2, q3, B, Bv, hs', nd', hB, hBv, hm', hblk⟩ := elemM_ok (τ := τ1) (gv := gv) (m := m) hvh hgood hvv hvg hlive hc3 _ rfl hgv.symm hm.symm hno'
      rw [hvh0, k2] at hB
      rcases hB with ⟨⟨ao, hB⟩, _⟩ | ⟨bk', of', cap', c, el, fz, Bs, hvv', hcap, hheap, hsz, rfl, hl⟩
      · cases hB; exfalso; have k4' : i < ((0 : Nat) : Int) := k4; have k3' : @LE.le Int Int.instLEInt 0 i := k3; omega
      · simp only [Value.slice.injEq, Option.some.injEq, Addr.mk.injEq, and_true] at hvv'
        obtain ⟨⟨rfl, rfl⟩, rfl, rfl⟩ := hvv'
        obtain ⟨j1, j2, j3, j4⟩ := hblk bk Bs rfl
        obtain ⟨c', el', hfr⟩ := hI.fresh bk (by rw [j1]; exact hb3)
        rw [hfr] at hheap
        simp only [Option.some.injEq, Obj.cells.injEq] at hheap
        obtain ⟨rfl, rfl, rfl⟩ := hheap
        have hi : i.toNat < l.length := toNat_lt k3 k4
        have hget : l[i.toNat]? = some (l.getD i.toNat e1.dflt) := by
          rw [List.getD_eq_getElem?_getD, List.getElem?_eq_getElem hi]; rfl
        obtain ⟨B1, Bx, B2, rfl, hx1, hx2, hx3⟩ := RepL.get (sz := e1.sz) (fun x c B h => Rep.len h) hl hget
        obtain ⟨Ba, Bo, Bb, rfl, hput, hle⟩ := Rep.put hr hx1 hBv
        have hset := RepL.set (sz := e1.sz) hi hput hx2 hx3
        have hlv : cv.length = v1.τ.sz := VOk.len hvv
        have hmul : (i.toNat + 1) * e1.sz ≤ l.length * e1.sz := Nat.mul_le_mul_right _ hi
        have hmul2 : l.length * e1.sz ≤ cap * e1.sz := Nat.mul_le_mul_right _ hcap
        rw [Nat.add_mul, Nat.one_mul] at hmul
        have hO : of + i.toNat * e1.sz + off + cv.length ≤ c'.size := by rw [← hc1]; omega
        have hrow' := setCells_row bk (el := el') cv (of + i.toNat * e1.sz + off) w c' hfr hO
        have hT := (hC.tt t ti hti).1
        have hrun := run_storeAt (P := P) (t := t) (τ := ti.τ) hT hfr (o := of + i.toNat * e1.sz + off) (cs := cv) (by rw [← hc4, ← hlv]; exact hO) (by rw [hlv, hc4]) (VOk.one hvv) k5
        have hU : U b1 := (hgood b1 (by simp)).2.1
        have hbx : G.bx b1 = false := (hgood b1 (by simp)).2.2
        have hI1 := hI.map (killSha_ok (w := w) b1) hI.colU (fun b => ⟨fun h => h, fun _ => rfl, fun _ => rfl⟩)
        have hcol : G.col bk = b1 := j1
        have hother : ∀ k, G.col k ≠ b1 → (w.setCells bk (of + i.toNat * e1.sz + off) cv).heap[k]? = w.heap[k]? := fun k hk =>
          setCells_other bk _ _ w k (fun e => hk (e ▸ hcol))
        have hBs' := j4 (B1 ++ (Ba ++ Bv ++ Bb) ++ B2) ⟨B1 ++ Ba, Bo, Bb ++ B2, by simp [List.append_assoc], by simp [List.append_assoc]⟩
        have hnot : bk ∉ B1 ++ (Ba ++ Bv ++ Bb) ++ B2 := by
          simp only [List.mem_append, not_or] at j2 ⊢
          exact ⟨⟨j2.1.1, ⟨j2.1.2.1.1, j3⟩, j2.1.2.2⟩, j2.2⟩
        have hmm : hs' = [b1] ∧ nd' = true := by
          have key : ∀ (own : Option (List Nat)) (mm : Vg.M), own.getD [] = gv → (if own.isSome = true then (Vg.M.row b1 [b1] true) else mm) = .row b1 hs' nd' → hs' = [b1] ∧ nd' = true := by
            intro own mm h1 h2
            cases own with
            | none => exact absurd h1.symm hgne
            | some ts =>
              simp only [Option.isSome_some, if_true, Vg.M.row.injEq, true_and] at h2
              exact ⟨h2.1.symm, h2.2.symm⟩
          exact key _ _ hgv (hm.trans hm')
        obtain ⟨rfl, rfl⟩ := hmm
        have hnew : RowOk (w.setCells bk (of + i.toNat * e1.sz + off) cv) G e1 (l.set i.toNat r.1) (G.hdr b1) (.row b1 (b1 :: gv) true) := by
          refine ⟨hb3, rfl, bk :: (B1 ++ (Ba ++ Bv ++ Bb) ++ B2), ?_, ?_⟩
          · refine .inr ⟨bk, of, cap, _, el', (0, 0), B1 ++ (Ba ++ Bv ++ Bb) ++ B2, by simp [k2], by simpa using hcap, hrow', by simp; omega, rfl, ?_⟩
            have hcells : ((splice (of + i.toNat * e1.sz + off) cv c'.toList).drop of).take ((l.set i.toNat r.1).length * e1.sz) =
                ((c'.toList.drop of).take (l.length * e1.sz)).take (i.toNat * e1.sz) ++ splice (e1.off p) cv ((((c'.toList.drop of).take (l.length * e1.sz)).drop (i.toNat * e1.sz)).take e1.sz) ++ ((c'.toList.drop of).take (l.length * e1.sz)).drop ((i.toNat + 1) * e1.sz) := by
              rw [splice_drop (by omega) (by simp; omega), splice_take (by simp; omega) (by simp; omega)]
              rw [show of + i.toNat * e1.sz + off - of = i.toNat * e1.sz + e1.off p by omega]
              rw [splice_nest (sz := e1.sz) hle]
              rw [Nat.add_mul, Nat.one_mul]
              simp
            show RepL _ _ (((splice (of + i.toNat * e1.sz + off) cv c'.toList).toArray.toList.drop of).take _) _
            rw [List.toList_toArray, hcells]
            exact RepL.world (fun k hk => setCells_other bk _ _ w k (fun e => hnot (e ▸ hk))) hset
          · rintro h' Bs'' ⟨⟩
            refine ⟨hcol, hnot, fun x hx => ?_, hBs'.2⟩
            have := hBs'.1 x hx
            split at this
            · rename_i hin; exact List.mem_cons_of_mem _ hin
            · simp only [List.mem_singleton] at this; rw [this]; simp
        have hI2 := hI1.setRow hnew hbx hb3 hother (fun s => ?_) (fun c hc => ?_) (fun k hk => ?_) (by rw [setCells_size]) (setCells_env _ _ _ w).1 (setCells_env _ _ _ w).2.1 (setCells_env _ _ _ w).2.2
        · have hI3 := hI2.giveM (ts := gv) (t := b1) (v := G.hdr b1) hb3 q1 hU rfl hbx
          refine ⟨w.setCells bk (of + i.toNat * e1.sz + off) cv, G.give gv b1 (G.hdr b1), ?_, ?_⟩
          · simp only [execOp, ho, hcv, hc4]
            simp [hrun]
          · simpa only [Env.elem2, List.map_map, Function.comp_def, SV.killSha, SV.give] using hI3
        · have := getD_map (L := E.s) (T := SV.killSha b1) rfl s
          show SV.clear b1 ((List.map (SV.killSha b1) E.s).getD s .no)
          rw [this]
          exact SV.killSha_clear b1 _
        · simp only [M.cols, List.mem_cons] at hc
          rcases hc with rfl | rfl | hc
          · exact hgood _ (by simp)
          · exact hgood _ (by simp)
          · exact (q1 c hc).2
        · by_cases e : k = bk
          · subst e; exact ⟨_, _, hrow'⟩
          · rw [setCells_other bk _ _ w k e]
            exact hI.fresh k (by rw [hk]; exact hb3)
    · cases h
  · cases h


theorem args_two {c : Call} {s j : Nat} (h : c.args.toList = [.tmp s, .tmp j]) (a : Act) : c.args.map a.eval = #[a.tmps.getD s undef, a.tmps.getD j undef] := by
  have : c.args = #[.tmp s, .tmp j] := Array.ext' (by simpa using h)
  rw [this]
  simp [Act.eval]

theorem put_self (d : Nat) (v : Value) (h : d < a.tmps.size) : (a.put (some d) v).tmps.getD d undef = v := by
  simp [Act.put, Array.getD_eq_getD_getElem?, h]

/-- One operation, as the evaluator with marks tells it. -/
theorem op_step3 (hC : CxOk P C) {i : Nat} {o : Oper} (ho : ops[i]? = some o) (hI : Inv w0 c0 U E a w G) (hR : RIL ops L E a.tmps) (hL : ∀ j w', o.guard = some (j, w') → L j) (hni : ¬ L i) (hgo : guardsOk ops = true)
    {tk : Nat} (h3 : 3 ≤ tk) (hU : ∀ u, tk ≤ u → u < tk + 32 → ¬ U u) {act : Option Bool} {ef : Ef} (hga : guardOf ops E.rd o.guard = some act) (hev : evOp C ops E.rd tk o.guard o = some ef)
    {k : Env → Option ρ} {r : ρ} (hap : applyEf3 o act E k ef = some r) {K : Act → World → Prop}
    (hK : ∀ E' a' w' G', k E' = some r → E'.s.length = E.s.length → Inv w0 c0 (fun u => U u ∨ (tk ≤ u ∧ u < tk + 32)) E' a' w' G' → RIL ops (fun j => L j ∨ j = i) E' a'.tmps → (∃ v, a' = a.put o.dst v) → K a' w') : wpOp P ops.toArray Q i K a w := by
  have hIm := hI.mono (U' := fun u => U u ∨ (tk ≤ u ∧ u < tk + 32)) (fun u hu => .inl hu)
  have old : applyEf2 o act E k ef = some r → wpOp P ops.toArray Q i K a w := by
    intro hap
    rw [applyEf2_eq, applyEf_bind, Option.bind_eq_some_iff] at hap
    obtain ⟨E', hs, hk⟩ := hap
    have hlen : E'.s.length = E.s.length := by
      cases ef with
      | val v => simp only [applyEf, Option.some.injEq] at hs; subst hs; exact set_len ..
      | chk c v =>
        simp only [applyEf] at hs
        split at hs
        · split at hs
          · simp only [Option.some.injEq] at hs; subst hs; exact set_len ..
          · cases hs
        · split at hs
          · simp only [Option.some.injEq] at hs; subst hs; exact set_len ..
          · cases hs
      | opt α z x f =>
        simp only [applyEf, Option.bind_eq_some_iff, Option.some.injEq] at hs
        obtain ⟨y, _, hs⟩ := hs; subst hs; exact set_len ..
      | put b s v =>
        simp only [applyEf] at hs
        split at hs
        · simp only [Option.some.injEq] at hs; subst hs; simp
        · cases hs
      | app c kl gv t v =>
        simp only [applyEf] at hs
        split at hs
        · split at hs
          · simp only [Option.some.injEq] at hs; subst hs; rw [set_len, give_len, kill_len]
          · cases hs
        · cases hs
      | elem gv b e l m =>
        simp only [applyEf] at hs
        split at hs
        · simp only [Option.some.injEq] at hs; subst hs; simp [Env.elem]
        · cases hs
      | nap c gv b e l m v =>
        simp only [applyEf] at hs
        split at hs
        · split at hs
          · simp only [Option.some.injEq] at hs; subst hs; rw [set_len]; simp [Env.elem]
          · cases hs
        · cases hs
      | call α x tks f rp =>
        simp only [applyEf] at hs
        split at hs
        · simp only [Option.bind_eq_some_iff, Option.some.injEq] at hs
          obtain ⟨y, _, hs⟩ := hs; subst hs; rw [set_len, putBoxes_len, killR_len]
        · cases hs
    exact op_step hC ho hI hR hL hni hgo h3 hU hga hev hs (fun a' w' G' g1 g2 g3 => hK E' a' w' G' hk hlen g1 g2 g3)
  unfold applyEf3 at hap
  split at hap
  · -- a guarded call
    rename_i α x tks f rp b
    cases hgd : o.guard with
    | none => rw [hgd] at hga; simp [guardOf] at hga
    | some p =>
      obtain ⟨j, w'⟩ := p
      rw [hgd] at hga hev
      obtain ⟨b', hb', hb⟩ := guardOf_ok hI hga
      cases hb'
      have hj := hL j w' hgd
      cases b with
      | true =>
        simp only [if_true, Option.bind_eq_some_iff] at hap
        obtain ⟨y, hy, hk⟩ := hap
        have hyl := hb.1 rfl
        have hwant : Region.wanted o (yielded ops.toArray a.tmps) = true := by simp [Region.wanted, hgd, hyl]
        have hS := evOp_ok hC hI hR.ri (g := some (j, w')) (by rintro j1 w1 ⟨⟩; exact hyl) h3 hU hev
        refine wpOp_of_value ho hwant ?_
        refine wp_of_enters (hS y hy) (fun mv w1 ⟨G', g1, g2, g3, g4⟩ => ?_)
        obtain ⟨k1, k2, k3⟩ := wrap_ok (j := j) (w' := w') g2 g3
        rw [hgd] at hk
        refine hK _ _ _ G' hk (by rw [set_len, putBoxes_len, killR_len]) ?_ ?_ ⟨_, rfl⟩
        · exact g1.put o.dst k1 k2.1 k2.2.1 k2.2.2 (fun t u e => absurd e (k3 t u))
        · refine RIL.put (E := { E.killR tks (rp y) with s := putBoxes (f y).2 (E.killR tks (rp y)).s }) (hR.map (fun s j w' act u h => killR_g (putBoxes_g h))) ho hgo hni hL (fun j1 w1 act v e => ?_)
          unfold wrapG at e
          simp only at e
          split at e
          · cases e
          · simp only [SV.g.injEq] at e
            obtain ⟨rfl, rfl, rfl, _⟩ := e
            exact ⟨⟨fun _ => hyl, fun _ => rfl⟩, hgd⟩
      | false =>
        simp only [Bool.false_eq_true, if_false] at hap
        have hyl : yielded ops.toArray a.tmps j ≠ some w' := fun h => by have := hb.2 h; cases this
        have hwant : Region.wanted o (yielded ops.toArray a.tmps) = false := by
          simp only [Region.wanted, hgd]
          simpa using hyl
        obtain ⟨k1, k2, k3⟩ := wrap_no (w := w) (G := G) (U := fun u => U u ∨ (tk ≤ u ∧ u < tk + 32)) (v := vB false) (j := j) (w' := w')
        rw [hgd] at hap
        unfold wpOp
        simp only [List.getElem?_toArray, ho, hwant, Bool.false_eq_true, if_false]
        refine hK _ _ _ G hap (set_len ..) ?_ ?_ ⟨_, rfl⟩
        · exact hIm.put o.dst k1 k2.1 k2.2.1 k2.2.2 (fun t u e => absurd e (k3 t u))
        · refine hR.put ho hgo hni hL (fun j1 w1 act v e => ?_)
          unfold wrapG at e
          simp only at e
          split at e
          · cases e
          · simp only [SV.g.injEq] at e
            obtain ⟨rfl, rfl, rfl, _⟩ := e
            exact ⟨⟨fun h => absurd h (by simp), fun h => absurd h hyl⟩, hgd⟩
  · -- an element that takes what is owned
    rename_i g0 gv b e l m
    split at hap
    · rename_i t x y hd hop
      cases hgd : o.guard with
      | some p =>
        rw [hgd] at hga
        obtain ⟨b', hb', _⟩ := guardOf_ok hI hga
        cases hb'
      | none =>
        rw [hgd] at hev
        have hwant : Region.wanted o (yielded ops.toArray a.tmps) = true := by simp [Region.wanted, hgd]
        refine wpOp_of_value ho hwant ?_
        obtain ⟨w1, G', h1, h2⟩ := elem2_ok hC.toCxTy hI hR.ri (g := none) (by rintro j w' ⟨⟩) hop (by simp) hev
        unfold Oper.wp
        rw [h1]
        refine hK _ _ _ G' hap (by simp [Env.elem2]) ?_ ?_ ⟨undef, rfl⟩
        · rw [hd]; exact h2.mono fun u hu => .inl hu
        · rw [hd]
          have := hR.map (E' := E.elem2 (g0 :: gv) b e l) (fun s j w' act u h => by
            have hh := getD_map (L := E.s) (T := fun s => ((s.killSha b).setRow b e l (.row b (b :: (g0 :: gv)) true)).give (g0 :: gv) b) rfl s
            simp only [Env.elem2] at h
            rw [hh] at h
            obtain ⟨v1, h1⟩ := mapM_g h
            obtain ⟨v2, h2⟩ := setRow_g h1
            exact mapM_g h2)
          intro s j w' act v hs
          obtain ⟨q1, q2, q3⟩ := this s j w' act v hs
          exact ⟨q1, .inl q2, q3⟩
    · cases hap
  · exact old hap

theorem evStps_ok (hC : CxOk P C) (hM : MTabOk P M) {io : List Nat} (hkp : keeps io ops = true) (hgo : guardsOk ops = true) {nt : Nat} (h3 : 3 ≤ nt) {k : Env → Option ρ} {r : ρ} : ∀ {l : List MStp} {i : Nat} {E : Env} {a : Act} {w : World} {G : Gh}, ops.drop i = l.flatMap MStp.ops → i + (l.flatMap MStp.ops).length = ops.length →
    Inv w0 c0 (fun u => u < nt + 32 * i) E a w G → RIL ops (fun j => j < i) E a.tmps → evStps C M ops nt l i E k = some r →
    (∀ E' a' w' G', Inv w0 c0 (fun u => u < nt + 32 * ops.length) E' a' w' G' → RIL ops (fun j => j < ops.length) E' a'.tmps → E'.s.length = E.s.length → (∀ i ∈ io, a'.tmps.getD i undef = a.tmps.getD i undef) → k E' = some r → Q .normal a' w') →
    wpOps P ops.toArray Q (List.range' i (l.flatMap MStp.ops).length) a w
  | [], i, E, a, w, G, hd, hl, hI, hR, h, hK => by
    have hi : i = ops.length := by simpa using hl
    subst hi
    exact hK E a w G hI hR rfl (fun _ _ => rfl) h
  | .one o :: l, i, E, a, w, G, hd, hl, hI, hR, h, hK => by
    simp only [List.flatMap_cons, MStp.ops, List.cons_append, List.nil_append] at hd
    simp only [List.flatMap_cons, MStp.ops, List.cons_append, List.nil_append, List.length_cons] at hl ⊢
    have ho : ops[i]? = some o := by
      have := congrArg List.head? hd
      simpa [List.head?_drop] using this
    have hd' : ops.drop (i + 1) = l.flatMap MStp.ops := by rw [← List.drop_drop, hd]; rfl
    simp only [evStps] at h
    rw [List.range'_succ, wpOps_cons]
    split at h
    · rename_i f m s j hc
      obtain ⟨hg, hm, c, hop, hcal, hargs⟩ := callOf_spec hc
      split at h
      · rename_i x sh n hA
        rw [Option.bind_eq_some_iff] at h
        obtain ⟨⟨kk, y⟩, hF, h⟩ := h
        unfold topA at hA
        split at hA
        · rename_i v n' shn hs hj
          split at hA
          · rename_i x' ts hx ho'
            cases hA
            have hv := hI.slots s
            have hgd := hI.ment s
            have hs' : E.s.getD s .no = .d v := hs
            rw [hs'] at hv hgd
            obtain ⟨cs, hcs, hvk⟩ := hv
            have e := castV_ok hx
            rw [e] at hcs hvk hgd ho'
            have hU := top_ok hI (hM f m hm) hvk hgd.1 ho' hF
            have hj' := slot_int hI hj
            have hwant : Region.wanted o (yielded ops.toArray a.tmps) = true := by simp [Region.wanted, hg]
            refine wpOp_of_value ho hwant (wp_of_upon hop hcal (R := fun mv w' => mv = Value.int .i64 kk ∧ ∃ G', Inv w0 c0 (fun u => u < nt + 32 * i) (E.mark (rowsOf m.τ y v.sh)) a w' G') ?_ (fun mv w' hh => ?_))
            · rw [args_two hargs, hcs, hj']; exact hU
            · obtain ⟨rfl, G', hI'⟩ := hh
              have hI2 := (hI'.putI o.dst kk).mono (U' := fun u => u < nt + 32 * (i + 1)) (fun u hu => by omega)
              refine evStps_ok hC hM hkp hgo h3 (l := l) (i := i + 1) hd' (by omega) hI2 (fun s j w1 act v he => absurd he (set_ng mark_noG (by rintro _ _ _ _ ⟨⟩) s j w1 act v)) h
                (fun E2 a2 w2 G2 g1 g2 g3 g5 g4 => hK E2 a2 w2 G2 g1 g2 (g3.trans ((set_len ..).trans (mark_len _))) (fun j hj => (g5 j hj).trans (keeps_put hkp (List.mem_of_getElem? ho) hj)) g4)
          · cases hA
        · cases hA
      · cases h
    · split at h
      · rename_i hun
        unfold untold at hun
        split at hun
        · rename_i cv hg hop
          have hwant : Region.wanted o (yielded ops.toArray a.tmps) = true := by simp [Region.wanted, hg]
          refine wpOp_of_value ho hwant ?_
          have hr1 : (execOp a.eval o).run P w = .ok (.value (a.eval (.const cv))) w := by
            simp only [execOp, hop]
            rfl
          unfold Oper.wp
          rw [hr1]
          show wpOps P ops.toArray Q _ _ _
          have hI2 := (hI.putNo o.dst (a.eval (.const cv))).mono (U' := fun u => u < nt + 32 * (i + 1)) (fun u hu => by omega)
          refine evStps_ok hC hM hkp hgo h3 (l := l) (i := i + 1) hd' (by omega) hI2 (fun s j w1 act v he => by
              obtain ⟨q1, q2, q3⟩ := hR.put ho hgo (by omega) (fun j w' hj => guardsOk_lt hgo ho hj) (sv := .no) (mv := a.eval (.const cv)) (by rintro _ _ _ _ ⟨⟩) s j w1 act v he
              exact ⟨q1, by rcases q2 with q2 | q2 <;> omega, q3⟩) h
            (fun E2 a2 w2 G2 g1 g2 g3 g5 g4 => hK E2 a2 w2 G2 g1 g2 (g3.trans (set_len ..)) (fun j hj => (g5 j hj).trans (keeps_put hkp (List.mem_of_getElem? ho) hj)) g4)
        · cases hun
      · split at h
        · cases h
        · rename_i act hga
          split at h
          · cases h
          · rename_i ef hev
            refine op_step3 hC ho hI hR (fun j w' hj => guardsOk_lt hgo ho hj) (by omega) hgo (tk := nt + 32 * i) (by omega) (fun u h1 h2 h => by omega) hga hev h (fun E' a' w' G' hk hlen hI' hR' ⟨v, hav⟩ => ?_)
            refine evStps_ok hC hM hkp hgo h3 (l := l) (i := i + 1) hd' (by omega) (hI'.mono (fun u hu => by rcases hu with hu | hu <;> omega))
              (fun s j w1 act v he => by
                obtain ⟨q1, q2, q3⟩ := hR' s j w1 act v he
                exact ⟨q1, by rcases q2 with q2 | q2 <;> omega, q3⟩) hk (fun E2 a2 w2 G2 g1 g2 g3 g5 g4 => hK E2 a2 w2 G2 g1 g2 (g3.trans hlen) (fun j hj => (g5 j hj).trans (by rw [hav]; exact keeps_put hkp (List.mem_of_getElem? ho) hj)) g4)
  | .nest o1 o2 o3 :: l, i, E, a, w, G, hd, hl, hI, hR, h, hK => by
    simp only [List.flatMap_cons, MStp.ops, List.cons_append, List.nil_append] at hd
    simp only [List.flatMap_cons, MStp.ops, List.cons_append, List.nil_append, List.length_cons] at hl ⊢
    have ho1 : ops[i]? = some o1 := by
      have := congrArg List.head? hd
      simpa [List.head?_drop] using this
    have hd1 : ops.drop (i + 1) = o2 :: o3 :: l.flatMap MStp.ops := by rw [← List.drop_drop, hd]; rfl
    have ho2 : ops[i + 1]? = some o2 := by
      have := congrArg List.head? hd1
      simpa [List.head?_drop] using this
    have hd2 : ops.drop (i + 1 + 1) = o3 :: l.flatMap MStp.ops := by rw [← List.drop_drop, hd1]; rfl
    have ho3 : ops[i + 1 + 1]? = some o3 := by
      have := congrArg List.head? hd2
      simpa [List.head?_drop] using this
    have hd3 : ops.drop (i + 3) = l.flatMap MStp.ops := by rw [show i + 3 = i + 1 + 1 + 1 by omega, ← List.drop_drop, hd2]; rfl
    simp only [evStps] at h
    split at h
    · rename_i f m t p q d1 d2 hn
      obtain ⟨g1, op1, ds1, g2, op2, ds2, hne, hqd, hc3⟩ := nestOf_spec hn
      obtain ⟨g3, hm, c, op3, hcal, hargs⟩ := callOf_spec hc3
      have three : ∀ (cs : List Value) (n kk : Int) (L' : List RowW), a.tmps.getD q undef = .int .i64 n → d1 < E.s.length → d2 < E.s.length → (execOp a.eval o1).run P w = .ok (.value (mkv m.τ cs)) w →
          Upon P f #[mkv m.τ cs, .int .i64 n] w (fun mv w' => mv = Value.int .i64 kk ∧ ∃ G', Inv w0 c0 (fun u => u < nt + 32 * i) (E.mark L') a w' G') →
          evStps C M ops nt l (i + 3) ((((E.mark L').set (some d1) .no).set (some d2) .no).set o3.dst (vI .i64 kk)) k = some r →
          wpOps P ops.toArray Q (List.range' i ((l.flatMap MStp.ops).length + 1 + 1 + 1)) a w := by
        intro cs n kk L' hqv hl1 hl2 hr1 hU h
        have hszE : a.tmps.size = E.s.length := hI.len
        rw [show (l.flatMap MStp.ops).length + 1 + 1 + 1 = ((l.flatMap MStp.ops).length + 1 + 1) + 1 from rfl, List.range'_succ, wpOps_cons]
        have hw1 : Region.wanted o1 (yielded ops.toArray a.tmps) = true := by simp [Region.wanted, g1]
        refine wpOp_of_value ho1 hw1 ?_
        unfold Oper.wp
        rw [hr1]
        show wpOps P ops.toArray Q _ _ _
        rw [List.range'_succ, wpOps_cons]
        have hw2 : Region.wanted o2 (yielded ops.toArray (a.put o1.dst (mkv m.τ cs)).tmps) = true := by simp [Region.wanted, g2]
        refine wpOp_of_value ho2 hw2 ?_
        have hr2 : (execOp (a.put o1.dst (mkv m.τ cs)).eval o2).run P w = .ok (.value (.int .i64 n)) w := by
          have := putI_act (a := a) (some d1) (mkv m.τ cs) q (by simpa using Ne.symm hqd)
          simp only [execOp, op2, Act.eval, ds1, this, hqv]
          rfl
        unfold Oper.wp
        rw [hr2]
        show wpOps P ops.toArray Q _ _ _
        rw [List.range'_succ, wpOps_cons]
        rw [ds1, ds2]
        have hw3 : Region.wanted o3 (yielded ops.toArray ((a.put (some d1) (mkv m.τ cs)).put (some d2) (.int .i64 n)).tmps) = true := by simp [Region.wanted, g3]
        refine wpOp_of_value ho3 hw3 (wp_of_upon op3 hcal (R := fun mv w' => mv = Value.int .i64 kk ∧ ∃ G', Inv w0 c0 (fun u => u < nt + 32 * i) (E.mark L') a w' G') ?_ (fun mv w' hh => ?_))
        · rw [args_two hargs, putI_act (some d2) _ d1 (by simpa using Ne.symm hne), put_self d1 _ (by rw [hszE]; exact hl1), put_self d2 _ (by rw [size_put, hszE]; exact hl2)]
          exact hU
        · obtain ⟨rfl, G', hI'⟩ := hh
          have hI2 := (((hI'.putNo (some d1) (mkv m.τ cs)).putNo (some d2) (.int .i64 n)).putI o3.dst kk).mono (U' := fun u => u < nt + 32 * (i + 3)) (fun u hu => by omega)
          have hz := evStps_ok hC hM hkp hgo h3 (l := l) (i := i + 3) hd3 (by omega) hI2 (fun s j w1 act v he => absurd he (set_ng (set_ng (set_ng mark_noG (by rintro _ _ _ _ ⟨⟩)) (by rintro _ _ _ _ ⟨⟩)) (by rintro _ _ _ _ ⟨⟩) s j w1 act v)) h
            (fun E2 a2 w2 G2 g1 g2 g3 g5 g4 => hK E2 a2 w2 G2 g1 g2 (g3.trans ((set_len ..).trans ((set_len ..).trans ((set_len ..).trans (mark_len _))))) (fun j hj => by
              rw [g5 j hj, keeps_put hkp (List.mem_of_getElem? ho3) hj]
              have k2 := keeps_put (a := a.put (some d1) (mkv m.τ cs)) hkp (List.mem_of_getElem? ho2) (v := .int .i64 n) hj
              have k1 := keeps_put (a := a) hkp (List.mem_of_getElem? ho1) (v := mkv m.τ cs) hj
              rw [ds2] at k2
              rw [ds1] at k1
              rw [k2, k1]) g4)
          exact hz
      split at h
      · split at h
        · rename_i x sh n hA
          rw [Option.bind_eq_some_iff] at h
          obtain ⟨⟨kk, y⟩, hF, h⟩ := h
          unfold ptrA at hA
          split at hA
          · rename_i ti b o path τ0 n' shn hti hp hq
            split at hA
            · rename_i sl v hbox
              split at hA
              · rename_i rr hcond hsub
                split at hA
                · rename_i x' ts hx hown
                  cases hA
                  simp only [Bool.and_eq_true, decide_eq_true_eq] at hcond
                  obtain ⟨⟨hoff, hτ⟩, hl1, hl2⟩ := hcond
                  have hsp := alias_sok (hI.slots p)
                  have hp' : alias_ (E.s.getD p .no) = .ptr b o path τ0 := hp
                  rw [hp'] at hsp
                  obtain ⟨bk, hb3, hhdr, hptr⟩ := hsp
                  obtain ⟨hslot, bk', c', el, q1, q2, q3, q4, q5, q6⟩ := hI.box (E := E) hbox
                  rw [q1] at hhdr
                  simp only [Value.pointer.injEq, Option.some.injEq, Addr.mk.injEq, and_true] at hhdr
                  subst hhdr
                  obtain ⟨r1, r2, r3, r4⟩ := VOk.sub hsub q5
                  have e := castV_ok hx
                  generalize hrs : rr.sh = rsh at e hown h
                  rw [e] at r1 r2 r4
                  have hlen := VOk.len q5
                  simp only [Array.length_toList] at hlen
                  have hT := (hC.tt t ti hti).1
                  rw [hτ] at hT
                  have hrun := run_loadVar' (P := P) hT q4 (o := o) (by rw [← hoff, hlen]; exact r2)
                  have hr1 : (execOp a.eval o1).run P w = .ok (.value (mkv m.τ ((c'.toList.drop o).take m.τ.sz))) w := by
                    simp only [execOp, op1]
                    refine run_v ?_
                    simp only [Instr.loadAt, Act.eval, hptr, Instr.sureAddr]
                    simpa using hrun
                  rw [hoff] at r1
                  exact three _ n kk _ (slot_int hI hq) hl1 hl2 hr1 (top_ok hI (hM f m hm) r1 (fun c hc => q6 c (r4 c hc)) hown hF) h
                · cases hA
              · cases hA
            · cases hA
          · cases hA
        · cases h
      · split at h
        · rename_i d hA
          rw [Option.bind_eq_some_iff] at h
          obtain ⟨⟨kk, y⟩, hF, h⟩ := h
          split at h
          · rename_i yy hput
            unfold nestA at hA
            split at hA
            · rename_i ti b e ii o path τ0 n shn hti hp hq
              split at hA
              · rename_i ll hs nd hrow
                split at hA
                · rename_i rr hcond hsub
                  split at hA
                  · rename_i x hx
                    cases hA
                    simp only [Bool.and_eq_true, decide_eq_true_eq] at hcond
                    obtain ⟨⟨⟨⟨hnd, hhs⟩, hoff⟩, hτ⟩, hl1, hl2⟩ := hcond
                    subst hnd
                    have hsp := hI.slots p
                    have hp' : E.s.getD p .no = .ept b e ii o path τ0 := hp
                    rw [hp'] at hsp
                    obtain ⟨bk, of, nn, cap, hb3, hhdr, hi0, hin, hptr⟩ := hsp
                    have hlt : ii.toNat < nn := toNat_lt hi0 hin
                    obtain ⟨⟨cc, el, fz, hheap, hsz⟩, hU⟩ := nest_ok hI (hM f m hm) hrow hhs hhdr hlt hsub hx hF hput
                    have hT := (hC.tt t ti hti).1
                    rw [hτ] at hT
                    rw [hoff] at hsz hU
                    have hrun := run_loadVar' (P := P) hT hheap (o := of + ii.toNat * e.sz + o) hsz
                    have hcell : cellsOf w bk (of + ii.toNat * e.sz + o) m.τ.sz = (cc.toList.drop (of + ii.toNat * e.sz + o)).take m.τ.sz := by
                      unfold cellsOf; rw [hheap]
                    rw [hcell] at hU
                    have hr1 : (execOp a.eval o1).run P w = .ok (.value (mkv m.τ ((cc.toList.drop (of + ii.toNat * e.sz + o)).take m.τ.sz))) w := by
                      simp only [execOp, op1]
                      refine run_v ?_
                      simp only [Instr.loadAt, Act.eval, hptr, Instr.sureAddr]
                      simpa using hrun
                    exact three _ n kk _ (slot_int hI hq) hl1 hl2 hr1 hU h
                  · cases hA
                · cases hA
              · cases hA
            · cases hA
          · cases h
        · cases h
    · cases h

end
end Vg

/- VG, part 65: whole code and whole functions, with calls that write into what they are handed. -/
namespace Vg
open Go

section
variable {P : Program} {C : Cx} {M : MTab} {w0 : World} {c0 : C0} {U : Nat → Prop} {E : Env} {a : Act} {w : World} {G : Gh} {ops : List Oper} {L : Nat → Prop} {Q : Exit → Act → World → Prop} {ρ : Type}

theorem evM_ok (hC : CxOk P C) (hM : MTabOk P M) {r : ρ} {T : Nat → Value} : ∀ (c : Code) {E : Env} {a : Act} {w : World} {G : Gh} {kn kr : Env → Option ρ} {ke : List (Nat × (Env → Option ρ))} {Q : Exit → Act → World → Prop},
    Inv w0 c0 (fun u => u < E.nt) E a w G → NoG E.s → E.s.length = C.n → 3 ≤ E.nt → (∀ i ∈ C.io, a.tmps.getD i undef = T i) → evM C M c E kn ke kr = some r → KOk C w0 c0 T r kn (Q .normal) → (∀ id k, ke.lookup id = some k → KOk C w0 c0 T r k (Q (.exit id))) → KOk C w0 c0 T r kr (Q .ret) →
    c.wp P Q a w := by
  intro c
  induction c with
  | skip => intro E a w G kn kr ke Q hI hg hl h3 hT h hn he hr; exact wp_skip (hn E a w G hI hg hl h3 hT h)
  | region id ops draw =>
    intro E a w G kn kr ke Q hI hg hl h3 hT h hn' he hr
    simp only [evM] at h
    split at h
    · rename_i hc
      simp only [Bool.and_eq_true] at hc
      obtain ⟨hgo, hkp⟩ := hc
      have fin : ∀ E' a' w' G', Inv w0 c0 (fun u => u < E.nt + 32 * ops.toList.length) E' a' w' G' → RIL ops.toList (fun j => j < ops.toList.length) E' a'.tmps → E'.s.length = E.s.length → (∀ i ∈ C.io, a'.tmps.getD i undef = a.tmps.getD i undef) →
          kn { clearG E' ops.toList with nt := E.nt + 32 * ops.size } = some r → Q .normal a' w' := by
        intro E' a' w' G' g1 g2 g3 g5 g4
        obtain ⟨k1, k2, k3⟩ := clearG_ok g1 g2
        refine hn' { clearG E' ops.toList with nt := E.nt + 32 * ops.size } a' w' G' ?_ k2 (by rw [k3, g3, hl]) (by show 3 ≤ E.nt + 32 * ops.size; omega) (fun i hi => (g5 i hi).trans (hT i hi)) g4
        simpa using k1
      split at h
      · split at h
        · rename_i d hd
          have hn : 0 < ops.size := by
            rcases Nat.eq_zero_or_pos ops.size with h0 | h0
            · have : ops = #[] := Array.eq_empty_of_size_eq_zero h0
              subst this
              simp [delOf] at hd
            · exact h0
          exact delStep_ok hC.toCxTy hC.mixed hI hg h3 hd hn hkp h (fun E' a' w' G' g1 g2 g3 g4 g5 g6 => hn' E' a' w' G' g1 g2 (g3.trans hl) g4 (fun i hi => (g5 i hi).trans (hT i hi)) g6)
        simp only [evOpsL2_eq] at h
        exact evOpsL_ok (ops := ops.toList) hC.mixed hC hkp hgo h3 hI hg (k := fun E' => kn { clearG E' ops.toList with nt := E.nt + 32 * ops.size }) (by
          rw [← h]; congr 1; funext E' L; cases labsOk ops.toList L <;> rfl) fin
      · refine wp_region ?_
        have hfl := steps_ops M ops.toList
        have := evStps_ok (Q := Q) hC hM hkp hgo h3 (l := steps M ops.toList) (i := 0) (by rw [hfl]; simp) (by rw [hfl]; simp) (by simpa using hI) (fun s j w1 act v he => absurd he (hg s j w1 act v)) h fin
        rw [list_range_add]
        rw [hfl] at this
        simpa using this
    · cases h
  | seq x y ihx ihy =>
    intro E a w G kn kr ke Q hI hg hl h3 hT h hn he hr
    refine wp_seq ?_
    simp only [evM] at h
    split at h
    · refine ihx (Q := Exit.then (y.wp P Q) Q) hI hg hl h3 hT h (fun E' a' w' G' g1 g2 g3 g4 gT g5 => ?_) he hr
      exact ihy g1 g2 g3 g4 gT g5 hn he hr
    · rename_i n _
      simp only [joinC] at h
      refine ihx (Q := Exit.then (y.wp P Q) Q) hI hg hl h3 hT h (fun E' a' w' G' g1 g2 g3 g4 gT g5 => ?_) he hr
      split at g5
      · rename_i t ht
        obtain ⟨G2, k1, k2, k3, k4⟩ := proj_ok g1 g3 ht
        exact ihy k1 k2 k3 k4 gT g5 hn he hr
      · cases g5
  | cond c x y ihx ihy =>
    intro E a w G kn kr ke Q hI hg hl h3 hT h hn he hr
    simp only [evM] at h
    split at h
    · rename_i b sh hb
      have hR : RI ([] : List Oper) E a.tmps := fun s j w1 act v he => absurd he (hg s j w1 act v)
      obtain ⟨⟨cs, h1, h2⟩, _⟩ := arg_ok hI hR (g := none) (by rintro j w' ⟨⟩) hb
      have hev : a.eval c = .bool b := by
        cases sh with
        | leaf => rw [h1, show cs = _ from h2]; rfl
        | sl m => exact h2.elim
        | pair a b => exact h2.elim
      refine wp_cond hev ?_
      split at h
      · rename_i hb; subst hb; exact ihx hI hg hl h3 hT h hn he hr
      · rename_i hb
        have : b = false := by simpa using hb
        subst this
        exact ihy hI hg hl h3 hT h hn he hr
    · cases h
  | block id c ih =>
    intro E a w G kn kr ke Q hI hg hl h3 hT h hn he hr
    refine wp_block ?_
    simp only [evM] at h
    refine ih (Q := Exit.inBlock id Q) hI hg hl h3 hT h hn (fun i k hk => ?_) hr
    rw [lookup_cons_block] at hk
    intro E2 a2 w2 G2 g1 g2 g3 g4 gT g5
    show Exit.inBlock id Q (.exit i) a2 w2
    simp only [Exit.inBlock]
    split at hk
    · rename_i e
      simp only [Option.some.injEq] at hk
      subst hk
      simp only [e, if_true]
      exact hn E2 a2 w2 G2 g1 g2 g3 g4 gT g5
    · rename_i e
      simp only [e, if_false]
      exact he i k hk E2 a2 w2 G2 g1 g2 g3 g4 gT g5
  | loop c ih =>
    intro E a w G kn kr ke Q hI hg hl h3 hT h hn he hr
    simp only [evM] at h
    split at h
    · cases h
    · rename_i n _
      have hq : ∃ t, proj n E = some t ∧ loopN C.k (fun G t => evM C M c (unproj C.n n t) (fun E' => match proj n E' with | some t => G t | none => none) ke kr) t = some r := by
        split at h
        · rename_i t ht; exact ⟨t, ht, h⟩
        · cases h
      obtain ⟨t, ht, h⟩ := hq
      obtain ⟨G2, k1, k2, k3, k4⟩ := proj_ok hI hl ht
      refine wp_loop_rounds C.k ?_
      have key : ∀ (m : Nat) (t : TupD (annTys n.ks)) (a : Act) (w : World) (G : Gh), loopN m (fun G t => evM C M c (unproj C.n n t) (fun E' => match proj n E' with | some t => G t | none => none) ke kr) t = some r →
          Inv w0 c0 (fun u => u < (unproj C.n n t).nt) (unproj C.n n t) a w G → NoG (unproj C.n n t).s → (unproj C.n n t).s.length = C.n → 3 ≤ (unproj C.n n t).nt → (∀ i ∈ C.io, a.tmps.getD i undef = T i) → Code.rounds P c Q m a w := by
        intro m
        induction m with
        | zero => intro t a w G h; simp [loopN] at h
        | succ m ihm =>
          intro t a w G h g1 g2 g3 g4 gT
          rw [rounds_succ]
          simp only [loopN] at h
          refine ih (Q := Exit.then (Code.rounds P c Q m) Q) g1 g2 g3 g4 gT h (fun E' a' w' G' q1 q2 q3 q4 qT q5 => ?_) he hr
          split at q5
          · rename_i t' ht'
            obtain ⟨G3, p1, p2, p3, p4⟩ := proj_ok q1 q3 ht'
            exact ihm t' a' w' G3 q5 p1 p2 p3 p4 qT
          · cases q5
      exact key C.k t a w G2 h k1 k2 k3 k4 hT
  | exit id =>
    intro E a w G kn kr ke Q hI hg hl h3 hT h hn he hr
    simp only [evM] at h
    split at h
    · rename_i k hk
      exact wp_exit (he id k hk E a w G hI hg hl h3 hT h)
    · cases h
  | ret => intro E a w G kn kr ke Q hI hg hl h3 hT h hn he hr; exact wp_ret (hr E a w G hI hg hl h3 hT h)
  | _ => intro E a w G kn kr ke Q hI hg hl h3 hT h hn he hr; simp [evM] at h


end
end Vg

/- VG, part 45: closed checks of a table of types. -/
namespace Vg
open Go

def cellB : Value → Value → Bool
  | .int k n, .int k' n' => k == k' && n == n'
  | .bool b, .bool b' => b == b'
  | .string a, .string b => a.size == 0 && b.size == 0
  | .slice none l c, .slice none l' c' => l == l' && c == c'
  | _, _ => false

def cellsB : List Value → List Value → Bool
  | [], [] => true
  | a :: l, b :: m => cellB a b && cellsB l m
  | _, _ => false

def zeroB : Ty → Value → Bool
  | .pair a b, .agg cs => cellsB cs.toList (Ty.pair a b).zero
  | .pair _ _, _ => false
  | τ, v => cellsB [v] τ.zero

theorem size0 {a : ByteArray} (h : a.size = 0) : a = ByteArray.empty := by
  cases a with
  | mk d =>
    have : d.size = 0 := h
    have : d = #[] := Array.eq_empty_of_size_eq_zero this
    rw [this]; rfl

theorem cellB_ok {a b : Value} (h : cellB a b = true) : a = b := by
  unfold cellB at h
  split at h
  · simp only [Bool.and_eq_true, beq_iff_eq] at h; rw [h.1, h.2]
  · simp only [beq_iff_eq] at h; rw [h]
  · simp only [Bool.and_eq_true, beq_iff_eq] at h; rw [size0 h.1, size0 h.2]
  · simp only [Bool.and_eq_true, beq_iff_eq] at h; rw [h.1, h.2]
  · cases h

theorem cellsB_ok : ∀ {l m : List Value}, cellsB l m = true → l = m
  | [], [], _ => rfl
  | a :: l, b :: m, h => by
    simp only [cellsB, Bool.and_eq_true] at h
    rw [cellB_ok h.1, cellsB_ok h.2]
  | [], _ :: _, h | _ :: _, [], h => by simp [cellsB] at h

theorem zeroB_ok {τ : Ty} {v : Value} (h : zeroB τ v = true) : v = mkv τ τ.zero := by
  cases τ with
  | pair a b =>
    cases v with
    | agg cs =>
      have := cellsB_ok (show cellsB cs.toList (Ty.pair a b).zero = true from h)
      simp only [mkv, ← this, Array.toArray_toList]
    | _ => simp [zeroB] at h
  | int k => have := cellsB_ok (show cellsB [v] (Ty.int k).zero = true from h); simpa [mkv, Ty.zero] using this
  | bool => have := cellsB_ok (show cellsB [v] Ty.bool.zero = true from h); simpa [mkv, Ty.zero] using this
  | str => have := cellsB_ok (show cellsB [v] Ty.str.zero = true from h); simpa [mkv, Ty.zero] using this
  | sl e => have := cellsB_ok (show cellsB [v] (Ty.sl e).zero = true from h); simpa [mkv, Ty.zero] using this

def isAggD : TypeDesc → Bool
  | .struct _ | .array _ _ => true
  | _ => false

def factsB (P : Program) (t : TypeId) (τ : Ty) : Bool :=
  match P.info? t, P.underlying t with
  | some inf, some d => inf.size == τ.sz && (match inf.zero with | some v => zeroB τ v | none => false) && decide (inf.bytes ≤ 32768) && isAggD d == τ.isPair
  | _, _ => false

theorem factsB_ok {P : Program} {t : TypeId} {τ : Ty} (h : factsB P t τ = true) : TyFacts P t τ := by
  unfold factsB at h
  split at h
  · rename_i inf d h1 h2
    simp only [Bool.and_eq_true, beq_iff_eq, decide_eq_true_eq] at h
    obtain ⟨⟨⟨h3, h4⟩, h5⟩, h6⟩ := h
    refine ⟨inf, d, h1, h3, ?_, h5, h2, ?_⟩
    · split at h4
      · rename_i v hv
        rw [hv, zeroB_ok h4]
      · cases h4
    · rw [← h6]
      cases d <;> rfl
  · cases h

def fieldB (P : Program) (τ : Ty) (fs : List TypeId) (j : Nat) (f : Field) : Bool :=
  f.offset == τ.off (fpath fs.length j) && fs[j]? == some f.type && (match τ.sub (fpath fs.length j) with | some σ => factsB P f.type σ | none => false)

theorem fieldB_ok {P : Program} {τ : Ty} {fs : List TypeId} {j : Nat} {f : Field} (h : fieldB P τ fs j f = true) : FieldOk P τ fs j f := by
  simp only [fieldB, Bool.and_eq_true, beq_iff_eq] at h
  obtain ⟨⟨h1, h2⟩, h3⟩ := h
  refine ⟨h1, h2, ?_⟩
  split at h3
  · rename_i σ hs
    exact ⟨σ, hs, factsB_ok h3⟩
  · cases h3

/-- Fields of a struct whose values may be compared. -/
def eqFs (P : Program) (chk : Ty → TypeId → Bool) : Ty → List Field → Nat → Bool
  | τ, [f], off => f.offset == off && f.name != "_" && factsB P f.type τ && chk τ f.type
  | .pair a b, f :: g :: l, off => f.offset == off && f.name != "_" && factsB P f.type a && chk a f.type && eqFs P chk b (g :: l) (off + a.sz)
  | _, _, _ => false

def eqN (P : Program) : Nat → Ty → TypeId → Bool
  | 0, _, _ => false
  | n + 1, τ, t =>
    match P.underlying t with
    | some (.int k) => τ == .int k
    | some .bool => τ == .bool
    | some .string => τ == .str
    | some (.struct fs) => τ.isPair && !P.stoodInHeld t && eqFs P (eqN P n) τ fs.toList 0
    | _ => false

section
variable {P : Program}

theorem run_part_ {w : World} {t : TypeId} {τ : Ty} (h : TyFacts P t τ) {cs : Array Value} {off : Nat} (ho : off + τ.sz ≤ cs.size) :
    (part t cs off).run P w = .ok (mkv τ ((cs.toList.drop off).take τ.sz)) w := by
  unfold part
  rw [Sem.run_bind, run_isAgg h, Result.andThen_ok]
  cases hp : τ.isPair with
  | true =>
    cases τ with
    | pair a b =>
      simp [run_sizeOf' h, mkv, Array.toList_extract, List.extract]
      apply Array.ext'
      simp [Array.toList_extract, List.extract]
    | _ => simp [Ty.isPair] at hp
  | false =>
    have hsz : τ.sz = 1 := by cases τ <;> first | rfl | simp [Ty.isPair] at hp
    rw [hsz] at ho
    have hg : cs[off]? = some cs[off] := Array.getElem?_eq_getElem (by omega)
    simp only [Bool.false_eq_true, if_false, hg, Sem.run_pure]
    have : (cs.toList.drop off).take τ.sz = [cs[off]] := by
      rw [hsz, List.take_one, List.head?_drop]
      simp [hg]
    rw [this]
    cases τ <;> first | rfl | simp [Ty.isPair] at hp

theorem beq_bytes (a b : ByteArray) : (a == b) = (a.toList == b.toList) := by
  rw [Bool.eq_iff_iff]
  simp only [beq_iff_eq, ByteArray.toList_eq]
  constructor
  · intro h
    have : (a.data == b.data) = true := h
    simp only [beq_iff_eq] at this
    rw [this]
  · intro h
    have h' : a.data = b.data := by
      have := congrArg List.toArray h
      simpa using this
    show (a.data == b.data) = true
    simp [h']

theorem eq_fields {w : World} {chk : Ty → TypeId → Bool} {d : Nat}
    (hchk : ∀ {τ : Ty} {t : TypeId} {a b : τ.den} {c1 c2 : List Value}, chk τ t = true → Rep w τ a c1 [] → Rep w τ b c2 [] → (Op.equalIn d t (mkv τ c1) (mkv τ c2)).run P w = .ok (eqv τ a b) w) {xs ys : Array Value} :
    ∀ {fs : List Field} {τ : Ty} {off : Nat} {a b : τ.den}, eqFs P chk τ fs off = true → Rep w τ a (xs.toList.drop off) [] → Rep w τ b (ys.toList.drop off) [] →
    ∃ r, (Sem.run P (forIn fs ((none, ()) : Option Bool × Unit) fun f __s => if f.name = "_" then pure (ForInStep.yield (none, ())) else do
              let __do_lift ← part f.type xs f.offset
              let __do_lift_1 ← part f.type ys f.offset
              let __do_lift ← Op.equalIn d f.type __do_lift __do_lift_1
              if __do_lift = false then pure (ForInStep.done (some false, ())) else pure (ForInStep.yield (none, ()))) w) = .ok r w ∧ r = (if eqv τ a b = true then none else some false, ())
  | [], τ, _, _, _, h, _, _ => by cases τ <;> simp [eqFs] at h
  | [f], τ, off, a, b, h, ha, hb => by
    have h : (f.offset == off && f.name != "_" && factsB P f.type τ && chk τ f.type) = true := by cases τ <;> exact h
    simp only [Bool.and_eq_true, beq_iff_eq, bne_iff_ne, ne_eq] at h
    obtain ⟨⟨⟨h1, h2⟩, h3⟩, h4⟩ := h
    have hf := factsB_ok h3
    have l1 := ha.len
    have l2 := hb.len
    simp only [List.length_drop, Array.length_toList] at l1 l2
    have hpos := τ.sz_pos
    have e1 : (xs.toList.drop off).take τ.sz = xs.toList.drop off := List.take_of_length_le (by simp; omega)
    have e2 : (ys.toList.drop off).take τ.sz = ys.toList.drop off := List.take_of_length_le (by simp; omega)
    simp only [List.forIn_cons, h2, if_false, h1, Sem.run_bind, run_part_ hf (show off + τ.sz ≤ xs.size by omega), run_part_ hf (show off + τ.sz ≤ ys.size by omega), Result.andThen_ok, e1, e2, hchk h4 ha hb]
    cases eqv τ a b <;> simp
  | f :: g :: l, τ, off, a, b, h, ha, hb => by
    cases τ with
    | pair τ1 τ2 =>
      simp only [eqFs, Bool.and_eq_true, beq_iff_eq, bne_iff_ne, ne_eq] at h
      obtain ⟨⟨⟨⟨h1, h2⟩, h3⟩, h4⟩, h5⟩ := h
      have hf := factsB_ok h3
      obtain ⟨c1, c2, B1, B2, q1, q2, r1, r2⟩ := ha
      obtain ⟨d1, d2, D1, D2, p1, p2, s1, s2⟩ := hb
      obtain ⟨rfl, rfl⟩ := List.append_eq_nil_iff.1 q2.symm
      obtain ⟨rfl, rfl⟩ := List.append_eq_nil_iff.1 p2.symm
      have l1 := r1.len
      have l2 := s1.len
      have t1 : (xs.toList.drop off).take τ1.sz = c1 := by rw [q1, ← l1, List.take_left]
      have t2 : (ys.toList.drop off).take τ1.sz = d1 := by rw [p1, ← l2, List.take_left]
      have u1 : xs.toList.drop (off + τ1.sz) = c2 := by rw [← List.drop_drop, q1, ← l1, List.drop_left]
      have u2 : ys.toList.drop (off + τ1.sz) = d2 := by rw [← List.drop_drop, p1, ← l2, List.drop_left]
      have z1 : off + τ1.sz ≤ xs.size := by
        have := congrArg List.length q1
        simp only [List.length_drop, Array.length_toList, List.length_append, l1] at this
        have := τ1.sz_pos; omega
      have z2 : off + τ1.sz ≤ ys.size := by
        have := congrArg List.length p1
        simp only [List.length_drop, Array.length_toList, List.length_append, l2] at this
        have := τ1.sz_pos; omega
      obtain ⟨r, k1, k2⟩ := eq_fields hchk (xs := xs) (ys := ys) h5 (by rw [u1]; exact r2) (by rw [u2]; exact s2)
      rw [List.forIn_cons]
      simp only [h2, if_false, h1, Sem.run_bind, run_part_ hf z1, run_part_ hf z2, Result.andThen_ok, t1, t2, hchk h4 r1 s1, eqv]
      rcases Bool.eq_false_or_eq_true (eqv τ1 a.1 b.1) with he | he
      · simp only [he, Bool.true_eq_false, if_false, Sem.run_pure, Result.andThen_ok, Bool.true_and]
        exact ⟨r, k1, k2⟩
      · simp [he]
    | _ => simp [eqFs] at h

theorem eq_in {w : World} : ∀ (n d : Nat) {τ : Ty} {t : TypeId} {a b : τ.den} {c1 c2 : List Value}, n ≤ d → eqN P n τ t = true → Rep w τ a c1 [] → Rep w τ b c2 [] → (Op.equalIn d t (mkv τ c1) (mkv τ c2)).run P w = .ok (eqv τ a b) w := by
  intro n
  induction n with
  | zero => intro d τ t a b c1 c2 _ h; simp [eqN] at h
  | succ n ih =>
    intro d τ t a b c1 c2 hd h ha hb
    obtain ⟨d, rfl⟩ : ∃ e, d = e + 1 := ⟨d - 1, by omega⟩
    simp only [eqN] at h
    split at h
    · rename_i k hu
      simp only [beq_iff_eq] at h
      subst h
      obtain ⟨rfl, _⟩ := ha
      obtain ⟨rfl, _⟩ := hb
      simp [Op.equalIn, run_underlying hu, mkv, eqv]
    · rename_i hu
      simp only [beq_iff_eq] at h
      subst h
      obtain ⟨rfl, _⟩ := ha
      obtain ⟨rfl, _⟩ := hb
      simp [Op.equalIn, run_underlying hu, mkv, eqv]
    · rename_i hu
      simp only [beq_iff_eq] at h
      subst h
      obtain ⟨rfl, _⟩ := ha
      obtain ⟨rfl, _⟩ := hb
      simp [Op.equalIn, run_underlying hu, mkv, eqv, beq_bytes]
    · rename_i fs hu
      simp only [Bool.and_eq_true, Bool.not_eq_true'] at h
      obtain ⟨⟨hp, hs⟩, hf⟩ := h
      cases τ with
      | pair τ1 τ2 =>
        simp only [mkv]
        obtain ⟨r, k1, k2⟩ := eq_fields (P := P) (w := w) (d := d) (xs := c1.toArray) (ys := c2.toArray) (fun h ha hb => ih d (by omega) h ha hb) hf (by simpa using ha) (by simpa using hb)
        simp [Op.equalIn, run_underlying hu, hs]
        rw [← Array.forIn_toList, k1, k2, Result.andThen_ok]
        cases eqv (τ1.pair τ2) a b <;> simp
      | _ => simp [Ty.isPair] at hp
    · cases h

theorem eqOk_of {t : TypeId} {τ : Ty} {n : Nat} (hn : n ≤ 10000) (hp : τ.isPair = true) (h : eqN P n τ t = true) (hg : P.eqGuardType P.depth t = false) : EqOk P t τ := by
  intro w op x y a b c1 c2 hop ha hb
  have he := eq_in n Op.maxDepth hn h ha hb
  cases τ with
  | pair τ1 τ2 =>
    simp only [mkv] at he ⊢
    rcases hop with rfl | rfl
    · simp [eqGuard, hg, binOp, Op.equal, he]
    · simp [eqGuard, hg, binOp, Op.equal, he]
  | _ => simp [Ty.isPair] at hp

/-- One row of a table. -/
def tyB (P : Program) (t : TypeId) (i : TI) : Bool :=
  factsB P t i.τ && (match i.τ, P.underlying t with
    | .int k, some (.int k') => k == k'
    | .bool, some .bool => true
    | .str, some .string => true
    | .sl e, some (.slice el) => el == i.el && factsB P el e && (if e == .int .u8 then (match P.underlying el with | some (.int .u8) => true | _ => false) else true)
    | .pair a b, some (.struct fields) => fields.size == i.fs.length && fields.toList.zipIdx.all (fun p => fieldB P (.pair a b) i.fs p.2 p.1) &&
        (if (Ty.pair a b).flat then eqN P 20 (.pair a b) t && !P.eqGuardType P.depth t else true)
    | _, _ => false) && (i.τ.isPair || i.fs.isEmpty)

theorem tyB_ok {t : TypeId} {i : TI} (h : tyB P t i = true) :
    TyOk P t i ∧ (i.τ.isPair = true → i.τ.flat = true → EqOk P t i.τ) ∧ (i.τ.isPair = false → i.fs = []) ∧ (i.τ = .sl (.int .u8) → P.underlying i.el = some (.int .u8)) := by
  obtain ⟨τ, fs, el⟩ := i
  simp only [tyB, Bool.and_eq_true, Bool.or_eq_true] at h
  obtain ⟨⟨h1, h2⟩, h3⟩ := h
  have hf := factsB_ok h1
  cases τ with
  | int k =>
    cases hu : P.underlying t with
    | none => rw [hu] at h2; simp at h2
    | some d =>
      rw [hu] at h2
      cases d <;> simp at h2
      subst h2
      exact ⟨⟨hf, hu⟩, by simp [Ty.isPair], by simpa [Ty.isPair] using h3, by simp⟩
  | bool =>
    cases hu : P.underlying t with
    | none => rw [hu] at h2; simp at h2
    | some d =>
      rw [hu] at h2
      cases d <;> simp at h2
      exact ⟨⟨hf, hu⟩, by simp [Ty.isPair], by simpa [Ty.isPair] using h3, by simp⟩
  | str =>
    cases hu : P.underlying t with
    | none => rw [hu] at h2; simp at h2
    | some d =>
      rw [hu] at h2
      cases d <;> simp at h2
      exact ⟨⟨hf, hu⟩, by simp [Ty.isPair], by simpa [Ty.isPair] using h3, by simp⟩
  | sl e =>
    cases hu : P.underlying t with
    | none => rw [hu] at h2; simp at h2
    | some d =>
      rw [hu] at h2
      cases d <;> simp only [Bool.and_eq_true, beq_iff_eq, Bool.false_eq_true] at h2
      obtain ⟨⟨rfl, h4⟩, h5⟩ := h2
      refine ⟨⟨hf, hu, factsB_ok h4⟩, by simp [Ty.isPair], by simpa [Ty.isPair] using h3, fun he => ?_⟩
      simp only [Ty.sl.injEq] at he
      subst he
      simp only [if_true] at h5
      split at h5
      · assumption
      · cases h5
  | pair a b =>
    cases hu : P.underlying t with
    | none => rw [hu] at h2; simp at h2
    | some d =>
      rw [hu] at h2
      cases d with
      | struct fields =>
        simp only [Bool.and_eq_true, beq_iff_eq] at h2
        obtain ⟨⟨h4, h5⟩, h6⟩ := h2
        refine ⟨⟨hf, fields, hu, h4, fun j f hj => ?_⟩, fun _ hfl => ?_, by simp [Ty.isPair], by simp⟩
        · rw [List.all_eq_true] at h5
          exact fieldB_ok (h5 (f, j) (List.mem_zipIdx_iff_getElem?.2 (by simpa using hj)))
        · rw [if_pos hfl] at h6
          simp only [Bool.and_eq_true, Bool.not_eq_true'] at h6
          exact eqOk_of (by omega) rfl h6.1 h6.2
      | _ => simp at h2

theorem lookup_mem' {α : Type} : ∀ {l : List (Nat × α)} {a : Nat} {b : α}, l.lookup a = some b → (a, b) ∈ l
  | [], _, _, h => by simp [List.lookup] at h
  | (x, y) :: l, a, b, h => by
    simp only [List.lookup] at h
    split at h
    · rename_i e
      simp only [beq_iff_eq] at e
      simp only [Option.some.injEq] at h
      subst e h; simp
    · exact List.mem_cons_of_mem _ (lookup_mem' h)

theorem cxTy_of {C : Cx} {l : List (Nat × TI)} (hl : l.all (fun p => tyB P p.1 p.2) = true) (hC : C.tt = fun t => l.lookup t) : CxTy P C := by
  have : ∀ t i, C.tt t = some i → tyB P t i = true := by
    intro t i h
    rw [hC] at h
    exact List.all_eq_true.1 hl (t, i) (lookup_mem' h)
  exact ⟨fun t i h => (tyB_ok (this t i h)).1, fun t i h => (tyB_ok (this t i h)).2.1, fun t i h => (tyB_ok (this t i h)).2.2.1, fun t i h => (tyB_ok (this t i h)).2.2.2⟩

end
end Vg

/- VG, part 49: what a printed text leans on. -/
namespace Vg
open Go

def mkCx (tt : List (Nat × TI)) (cts : List (FuncId × Con)) (la ja : Nat → Option Ann) (k : Nat) : Cx :=
  ⟨fun t => tt.lookup t, fun f => cts.lookup f, la, ja, k, 0, []⟩

def AllM (P : Program) : List (FuncId × Con) → Prop
  | [] => True
  | p :: l => Meets P p.1 p.2 ∧ AllM P l

theorem AllM.mem {P : Program} : ∀ {l : List (FuncId × Con)}, AllM P l → ∀ p ∈ l, Meets P p.1 p.2
  | [], _, _, h => by cases h
  | q :: l, ⟨h1, h2⟩, p, h => by
    rcases List.mem_cons.1 h with rfl | h
    · exact h1
    · exact AllM.mem h2 p h

theorem cx_ok {P : Program} {tt : List (Nat × TI)} (h1 : tt.all (fun p => tyB P p.1 p.2) = true) (hm : P.follows .mixedOrders = true) {cts : List (FuncId × Con)} (hc : AllM P cts) {la ja : Nat → Option Ann} {k : Nat} :
    CxOk P (mkCx tt cts la ja k) :=
  ⟨cxTy_of h1 rfl, fun f con h => hc.mem (f, con) (lookup_mem' h), hm⟩

/-- A function's contract, from the evaluator's equation. -/
theorem meets_ev {P : Program} {tt : List (Nat × TI)} (h1 : tt.all (fun p => tyB P p.1 p.2) = true) (hm : P.follows .mixedOrders = true) {cts : List (FuncId × Con)} (hc : AllM P cts) {la ja : Nat → Option Ann} {k : Nat}
    {f : FuncId} {fn : Func} (hf : P.funcs[f]? = some fn) (hname : (fn.name == "runtime.NumGoroutine") = false) {ps : List PK} {rs : List RK} {kp : List (Nat × List Bool)} (hn : decide (ps.length ≤ fn.ntmps) = true)
    {F : TupD (ps.map PK.ty) → Option (TupD (rs.map RK.ty ++ ioTys ps))} (hF : ∀ x, evFn2 (mkCx tt cts la ja k) ps rs kp fn x = F x) : Meets P f ⟨ps, rs, F, kp⟩ :=
  fn_ok (cx_ok h1 hm hc) hf hname (of_decide_eq_true hn) (fun x _ h => (evFn2_eq ..).symm.trans ((hF x).trans h))

/-- What is asked of a function's text: its name, the number of its slots. -/
def fnB (fn : Func) (n : Nat) : Bool := match fn.name == "runtime.NumGoroutine" with | true => false | false => decide (n ≤ fn.ntmps)
theorem fnB_spec {fn : Func} {n : Nat} (h : fnB fn n = true) : (fn.name == "runtime.NumGoroutine") = false ∧ decide (n ≤ fn.ntmps) = true := by
  unfold fnB at h
  split at h
  · cases h
  · rename_i hn; exact ⟨hn, h⟩

theorem AllM.ev {P : Program} {tt : List (Nat × TI)} (h1 : tt.all (fun p => tyB P p.1 p.2) = true) (hm : P.follows .mixedOrders = true) {cts : List (FuncId × Con)} (hc : AllM P cts) (la ja : Nat → Option Ann) (k : Nat)
    {f : FuncId} {fn : Func} (hf : P.funcs[f]? = some fn) {ps : List PK} (hb : fnB fn ps.length = true) {rs : List RK} {kp : List (Nat × List Bool)}
    {F : TupD (ps.map PK.ty) → Option (TupD (rs.map RK.ty ++ ioTys ps))} (hF : ∀ x, evFn2 (mkCx tt cts la ja k) ps rs kp fn x = F x) : AllM P ((f, ⟨ps, rs, F, kp⟩) :: cts) :=
  ⟨meets_ev h1 hm hc hf (fnB_spec hb).1 (fnB_spec hb).2 hF, hc⟩

end Vg

/- VG, part 66: functions' contracts, with calls that write into what they are handed. -/
namespace Vg
open Go

/-- A value that is named. -/
def letC {α β : Type} (x : α) (f : α → β) : β := f x

def ownP : Ty → Pt
  | .sl _ => .own
  | .pair a b => .pair (ownP a) (ownP b)
  | _ => .leaf

def finM (τ : Ty) (rv : List ResultVar) (E : Env) : Option (Int × τ.den) :=
  match rv with
  | [.tmp s] => (match E.get s, E.get 0 with
    | .d ⟨.int .i64, k, _⟩, .d v => (match castV v τ, ownT v.sh with
      | some y, some _ => some (k, y)
      | _, _ => none)
    | _, _ => none)
  | _ => none

/-- What a function makes of what it is handed. -/
def evMk (C : Cx) (M : MTab) (τ : Ty) (fn : Func) (x : τ.den) (n : Int) : Option (Int × τ.den) :=
  match fn.body with
  | none => none
  | some c =>
    let e := env0 [.val τ (ownP τ), .val (.int .i64) .leaf] (x, n, ()) 3
    evM { C with n := fn.ntmps, io := [0] } M c ⟨e.1 ++ List.replicate (fn.ntmps - e.1.length) .no, e.2, true⟩ (finM τ fn.results.toList) [] (finM τ fn.results.toList)

def evFnM (C : Cx) (M : MTab) (ps : List PK) (rs : List RK) (kp : List (Nat × List Bool)) (fn : Func) (x : TupD (ps.map PK.ty)) : Option (TupD (rs.map RK.ty ++ ioTys ps)) :=
  match fn.body with
  | none => none
  | some c =>
    let e := env0 ps x 3
    evM { C with n := fn.ntmps, io := ioIdx ps 0 } M c ⟨e.1 ++ List.replicate (fn.ntmps - e.1.length) .no, e.2, true⟩ (fin C.tt ps rs kp fn.results.toList e.2) [] (fin C.tt ps rs kp fn.results.toList e.2)

section
variable {P : Program} {C : Cx} {M : MTab} {w0 : World} {c0 : C0} {U : Nat → Prop} {E : Env} {a : Act} {w : World} {G : Gh} {ops : List Oper} {L : Nat → Prop} {Q : Exit → Act → World → Prop} {ρ : Type}

theorem own_ent : ∀ {τ : Ty} {x : τ.den} {cs : List Value} {B : List Nat} (tk : Nat), 3 ≤ tk → Rep w τ x cs B → B.Nodup → ∃ (f : Nat → Nat) (H : Nat → Value), (∀ b ∈ B, tk ≤ f b ∧ f b < ptNext (ownP τ) tk) ∧
    ∀ G1 : Gh, (∀ b ∈ B, G1.col b = f b) → (∀ u, tk ≤ u → u < ptNext (ownP τ) tk → G1.hdr u = H u) → VOk w G1 τ x (ptShape (ownP τ) tk [1]).1 cs
  | .int _, _, _, _, _, _, h, _ => ⟨fun _ => 0, fun _ => undef, by rw [h.2]; simp, fun _ _ _ => h.1⟩
  | .bool, _, _, _, _, _, h, _ => ⟨fun _ => 0, fun _ => undef, by rw [h.2]; simp, fun _ _ _ => h.1⟩
  | .str, _, _, _, _, _, h, _ => ⟨fun _ => 0, fun _ => undef, by rw [h.2]; simp, fun _ _ _ => h.1⟩
  | .sl e, l, cs, B, tk, h3, h, hn => by
    obtain ⟨v, rfl, hS⟩ := h
    refine ⟨fun _ => tk, fun _ => v, fun b _ => ⟨Nat.le_refl _, Nat.lt_succ_self _⟩, fun G1 g1 g2 => ⟨v, rfl, h3, g2 tk (Nat.le_refl _) (Nat.lt_succ_self _), B, hS, ?_⟩⟩
    rintro b Bs rfl
    rw [List.nodup_cons] at hn
    exact ⟨g1 b (by simp), hn.1, fun z hz => by simp [g1 z (by simp [hz])], fun _ => hn.2⟩
  | .pair a b, p, cs, B, tk, h3, h, hn => by
    obtain ⟨c1, c2, B1, B2, rfl, rfl, h1, h2⟩ := h
    rw [List.nodup_append] at hn
    obtain ⟨n1, n2, n3⟩ := hn
    have hge := ptNext_ge (ownP a) tk
    have hge2 := ptNext_ge (ownP b) (ptNext (ownP a) tk)
    obtain ⟨f1, H1, j1, k1⟩ := own_ent tk h3 h1 n1
    obtain ⟨f2, H2, j2, k2⟩ := own_ent (ptNext (ownP a) tk) (by omega) h2 n2
    refine ⟨fun z => if z ∈ B1 then f1 z else f2 z, fun u => if u < ptNext (ownP a) tk then H1 u else H2 u, fun z hz => ?_, fun G1 g1 g2 => ⟨c1, c2, rfl, ?_, ?_⟩⟩
    · simp only [ownP, ptNext_pair]
      by_cases hz1 : z ∈ B1
      · have := j1 z hz1; simp only [hz1, if_true]; omega
      · have := j2 z ((List.mem_append.1 hz).resolve_left hz1); simp only [hz1, if_false]; omega
    · exact k1 G1 (fun z hz => by rw [g1 z (by simp [hz])]; simp [hz]) (fun u hu hu2 => (g2 u hu (by simp only [ownP, ptNext_pair]; omega)).trans (if_pos hu2))
    · rw [ptNext_eq]
      exact k2 G1 (fun z hz => by
        rw [g1 z (by simp [hz])]
        have : z ∉ B1 := fun h => n3 z h z hz rfl
        simp [this]) (fun u hu hu2 => (g2 u (by omega) (by simp only [ownP, ptNext_pair]; omega)).trans (if_neg (by omega)))

theorem lot_own {τ : Ty} {x : τ.den} {cs : List Value} {B : List Nat} (n : Int) (h : Rep w τ x cs B) (hn : B.Nodup) (hf : ∀ b ∈ B, Fresh1 w b) :
    ∃ G0 : Gh, Lot w G0 (env0 [.val τ (ownP τ), .val (.int .i64) .leaf] (x, n, ()) 3).1 [mkv τ cs, .int .i64 n] (entNt [.val τ (ownP τ), .val (.int .i64) .leaf] 3) ∧
      (∀ b, b ∉ B → G0.col b = 0) := by
  obtain ⟨f, H, j, k⟩ := own_ent 3 (Nat.le_refl _) h hn
  let G0 : Gh := ⟨fun b => if b ∈ B then f b else 0, H, fun _ => false⟩
  have hcol : ∀ b ∈ B, G0.col b = f b := fun b hb => by simp [G0, hb]
  have hv := k G0 hcol (fun _ _ _ => rfl)
  refine ⟨G0, ⟨rfl, fun i => ?_, fun i => ?_, fun i j t v v' h h' => env0_uni h h', fun b hb => ?_, fun b hb => ?_, rfl, fun b => ?_⟩, fun b hb => by simp [G0, hb]⟩
  · match i with
    | 0 => exact ⟨cs, rfl, hv⟩
    | 1 => exact ⟨_, rfl, rfl⟩
    | i + 2 => trivial
  · by_cases hi : i < (env0 [.val τ (ownP τ), .val (.int .i64) .leaf] (x, n, ()) 3).1.length
    · have hmem : (env0 [.val τ (ownP τ), .val (.int .i64) .leaf] (x, n, ()) 3).1.getD i .no ∈ (env0 [.val τ (ownP τ), .val (.int .i64) .leaf] (x, n, ()) 3).1 := by
        rw [List.getD_eq_getElem?_getD, List.getElem?_eq_getElem hi]; simp
      obtain ⟨h1, h2, h3⟩ := env0_static _ hmem
      have hge := entNt_ge [.val τ (ownP τ), .val (.int .i64) .leaf] 3
      refine ⟨fun c hc => ?_, fun c hc => ?_, by rw [h3]; simp⟩
      · rcases h1 c hc with rfl | ⟨q1, q2, q3⟩ | h
        · exact ⟨by omega, by omega, rfl⟩
        · exact ⟨by omega, q2, rfl⟩
        · simp [vxs] at h
      · have := h2 c hc; simp [boxToks] at this
    · rw [List.getD_eq_getElem?_getD, List.getElem?_eq_none (by omega)]
      simp [Ment, SV.sc, SV.bt, SV.rt]
  · by_cases hb1 : b ∈ B
    · rw [hcol b hb1]
      exact ⟨(j b hb1).2, Rep.bounds h b hb1⟩
    · simp [G0, hb1] at hb
  · by_cases hb1 : b ∈ B
    · exact hf b hb1
    · simp [G0, hb1] at hb
  · by_cases hb1 : b ∈ B
    · rw [hcol b hb1]; have := j b hb1; omega
    · simp [G0, hb1]

theorem begin_tmp (args : List Value) (n i : Nat) (hi : i < args.length) : (args.toArray ++ Array.replicate (n - args.toArray.size) undef).getD i undef = args.getD i undef := by
  rw [Array.getD_eq_getD_getElem?, List.getD_eq_getElem?_getD, Array.getElem?_append_left (by simpa using hi)]
  simp

/-- A function that writes into what it is handed meets its contract. -/
theorem mk_ok (hC : CxOk P C) (hM : MTabOk P M) {f : FuncId} {fn : Func} {m : MCon} (hf : P.funcs[f]? = some fn) (hname : (fn.name == "runtime.NumGoroutine") = false) (hn : 2 ≤ fn.ntmps)
    (hF : ∀ x n y, m.F x n = some y → evMk C M m.τ fn x n = some y) : MMeets P f m := by
  intro w x n k y cs B hy hrep hnd hfr
  have hev := hF x n (k, y) hy
  unfold evMk at hev
  split at hev
  · cases hev
  · rename_i c hb
    obtain ⟨G0, hlot, hG0⟩ := lot_own n hrep hnd hfr
    have hrun : (callFunc f #[mkv m.τ cs, .int .i64 n]).run P w = .ok (.enter f #[mkv m.τ cs, .int .i64 n]) w := by
      have hne : fn.name ≠ "runtime.NumGoroutine" := by simpa using hname
      unfold callFunc
      simp [hf, hne, hb]
    unfold Upon
    rw [hrun]
    simp only
    refine calls_of_wp hf hb ?_
    have hE := begin_ok hlot fn.ntmps
    have h30 := entNt_ge [.val m.τ (ownP m.τ), .val (.int .i64) .leaf] 3
    have hkey : KOk { C with n := fn.ntmps, io := [0] } w (G0.beg (entNt [.val m.τ (ownP m.τ), .val (.int .i64) .leaf] 3)) (fun i => [mkv m.τ cs, Value.int .i64 n].getD i undef) (k, y) (finM m.τ fn.results.toList) (fun a' w' =>
        a'.defers = [] ∧ ∃ v, (results fn a'.tmps).run P w' = .ok v w' ∧ ∃ v', Ending.returned v = Ending.returned v' ∧ (v' = .int .i64 k ∧ ∃ B', MPost w w' m.τ y cs B B')) := by
      intro E' a' w' G' g1 g2 g3 g4 gT g5
      unfold finM at g5
      split at g5
      · rename_i s hrv
        split at g5
        · rename_i k' shk v hs h0
          split at g5
          · rename_i y' ts hcast hown
            cases g5
            have hk := slot_int g1 hs
            have hs0 := g1.slots 0
            have h0' : E'.s.getD 0 .no = .d v := h0
            rw [h0'] at hs0
            obtain ⟨cs', hcs', hv⟩ := hs0
            have e := castV_ok hcast
            rw [e] at hcs' hv
            have hT0 := gT 0 (by simp)
            rw [hcs'] at hT0
            have hT0' : mkv m.τ cs' = mkv m.τ cs := hT0
            have hcc : cs' = cs := by
              have h1 := mkv_cells (VOk.len hv) (VOk.one hv)
              have h2 := mkv_cells (Rep.len hrep) (Rep.one hrep)
              rw [← h1, ← h2, hT0']
            subst hcc
            have hsown := ownT_own hv hown
            obtain ⟨B', hB', hn', hc'⟩ := hv.own hsown
            have h3' := Sh.own_ge hv hsown
            refine ⟨g1.defers, .int .i64 k, ?_, .int .i64 k, rfl, rfl, B', ⟨hB', hn', fun b hb' => ?_, fun b hb' => g1.fresh b (h3' _ (hc' b hb')), fun b hb' hnb => ?_, g1.size, g1.os, g1.tape, g1.output⟩⟩
            · have := run_results (P := P) (w := w') (fn := fn) (tmps := a'.tmps) (vs := [a'.tmps.getD s undef]) (by rw [hrv]; simp [resRun])
              rw [this, hk]; rfl
            · rcases Nat.lt_or_ge b w.heap.size with hlt | hge
              · left
                refine Classical.byContradiction fun hnb => ?_
                have : G'.col b = G0.col b := (g1.frame b hlt (by show G0.col b < 3; rw [hG0 b hnb]; omega)).1
                rw [hG0 b hnb] at this
                have h4 := h3' _ (hc' b hb')
                omega
              · exact .inr hge
            · exact (g1.frame b hb' (by show G0.col b < 3; rw [hG0 b hnb]; omega)).2
          · cases g5
        · cases g5
      · cases g5
    have hC2 : CxOk P { C with n := fn.ntmps, io := [0] } := ⟨⟨hC.tt, hC.eq, hC.fs, hC.u8⟩, hC.ct, hC.mixed⟩
    have hnt : (env0 [.val m.τ (ownP m.τ), .val (.int .i64) .leaf] (x, n, ()) 3).2 = entNt [.val m.τ (ownP m.τ), .val (.int .i64) .leaf] 3 := env0_nt _ _ _
    have hln : (env0 [.val m.τ (ownP m.τ), .val (.int .i64) .leaf] (x, n, ()) 3).1.length = 2 := env0_len [.val m.τ (ownP m.τ), .val (.int .i64) .leaf] (x, n, ()) 3
    refine evM_ok (T := fun i => [mkv m.τ cs, Value.int .i64 n].getD i undef) hC2 hM c (w0 := w) (c0 := G0.beg (entNt [.val m.τ (ownP m.τ), .val (.int .i64) .leaf] 3)) (G := G0) (r := (k, y)) (hE.mono fun u hu => Nat.lt_of_lt_of_le hu (Nat.le_of_eq hnt.symm)) (fun s j w1 act v h => ?_) ?_ ?_ (fun i hi => ?_) hev hkey (fun id k hk => by simp [List.lookup] at hk) hkey
    · rw [getD_app_no] at h; exact env0_noG _ _ _ _ _ h
    · simp only [List.length_append, List.length_replicate]; omega
    · exact Nat.le_trans h30 (Nat.le_of_eq hnt.symm)
    · simp only [List.mem_singleton] at hi
      subst hi
      exact begin_tmp [mkv m.τ cs, Value.int .i64 n] fn.ntmps 0 (by simp)

/-- A function that calls such functions meets its contract. -/
theorem fnM_ok (hC : CxOk P C) (hM : MTabOk P M) {f : FuncId} {fn : Func} {con : Con} (hf : P.funcs[f]? = some fn) (hname : (fn.name == "runtime.NumGoroutine") = false) (hn : con.ps.length ≤ fn.ntmps)
    (hF : ∀ x y, con.F x = some y → evFnM C M con.ps con.rs con.kp fn x = some y) : Meets P f con := by
  intro w G0 args x y hy hlot
  have hev := hF x y hy
  unfold evFnM at hev
  split at hev
  · cases hev
  · rename_i c hb
    have hrun : (callFunc f args.toArray).run P w = .ok (.enter f args.toArray) w := by
      have hne : fn.name ≠ "runtime.NumGoroutine" := by simpa using hname
      unfold callFunc
      simp [hf, hne, hb]
    unfold Upon
    rw [hrun]
    simp only
    refine calls_of_wp hf hb ?_
    have hal : args.length = con.ps.length := by rw [hlot.len, env0_len]
    have hE := begin_ok hlot fn.ntmps
    have h30 := entNt_ge con.ps 3
    have hkey : KOk { C with n := fn.ntmps, io := ioIdx con.ps 0 } w (G0.beg (entNt con.ps 3)) (fun i => args.getD i undef) y (fin C.tt con.ps con.rs con.kp fn.results.toList (env0 con.ps x 3).2) (fun a' w' =>
        a'.defers = [] ∧ ∃ v, (results fn a'.tmps).run P w' = .ok v w' ∧ ∃ v', Ending.returned v = Ending.returned v' ∧ ∃ G' vs nt, Post con w G0 args y v' w' G' vs nt) := by
      intro E' a' w' G' g1 g2 g3 g4 gT g5
      rw [env0_nt] at g5
      obtain ⟨mv, G2, vs, nt, k1, k2⟩ := fin_ok hC.toCxTy (args := args) hlot g1 g5 gT
      exact ⟨g1.defers, mv, k1, mv, rfl, G2, vs, nt, k2⟩
    have hC2 : CxOk P { C with n := fn.ntmps, io := ioIdx con.ps 0 } := ⟨⟨hC.tt, hC.eq, hC.fs, hC.u8⟩, hC.ct, hC.mixed⟩
    refine evM_ok (T := fun i => args.getD i undef) hC2 hM c (w0 := w) (c0 := G0.beg (entNt con.ps 3)) (G := G0) (r := y) (by rw [env0_nt]; simpa [env0_nt] using hE) (fun s j w1 act v h => ?_) ?_ ?_ (fun i hi => ?_) hev hkey (fun id k hk => by simp [List.lookup] at hk) hkey
    · rw [getD_app_no] at h; exact env0_noG _ _ _ _ _ h
    · simp only [List.length_append, List.length_replicate, env0_len]; omega
    · rw [env0_nt]; exact h30
    · have := ioIdx_in i hi
      exact begin_tmp args fn.ntmps i (by omega)

def AllMM (P : Program) : List (FuncId × MCon) → Prop
  | [] => True
  | p :: l => MMeets P p.1 p.2 ∧ AllMM P l

theorem mLookup_mem {f : FuncId} {m : MCon} : ∀ {l : List (FuncId × MCon)}, l.lookup f = some m → (f, m) ∈ l
  | [], h => by simp [List.lookup] at h
  | (x, y) :: l, h => by
    simp only [List.lookup] at h
    split at h
    · rename_i e
      simp only [beq_iff_eq] at e
      simp only [Option.some.injEq] at h
      subst e h; simp
    · exact List.mem_cons_of_mem _ (mLookup_mem h)

theorem AllMM.mem : ∀ {l : List (FuncId × MCon)}, AllMM P l → ∀ p ∈ l, MMeets P p.1 p.2
  | [], _, _, h => by cases h
  | q :: l, ⟨h1, h2⟩, p, h => by
    rcases List.mem_cons.1 h with rfl | h
    · exact h1
    · exact AllMM.mem h2 p h

theorem AllMM.tab {l : List (FuncId × MCon)} (h : AllMM P l) : MTabOk P (fun f => l.lookup f) := fun f m hm => h.mem (f, m) (mLookup_mem hm)

theorem mmeets_ev {tt : List (Nat × TI)} (h1 : tt.all (fun p => tyB P p.1 p.2) = true) (hm : P.follows .mixedOrders = true) {cts : List (FuncId × Con)} (hc : AllM P cts) {mts : List (FuncId × MCon)} (hmc : AllMM P mts) {la ja : Nat → Option Ann} {k : Nat}
    {f : FuncId} {fn : Func} (hf : P.funcs[f]? = some fn) (hname : (fn.name == "runtime.NumGoroutine") = false) {τ : Ty} (hn : decide (2 ≤ fn.ntmps) = true)
    {F : τ.den → Int → Option (Int × τ.den)} (hF : ∀ x n, evMk (mkCx tt cts la ja k) (fun f => mts.lookup f) τ fn x n = F x n) : MMeets P f ⟨τ, F⟩ :=
  mk_ok (cx_ok h1 hm hc) hmc.tab hf hname (of_decide_eq_true hn) (fun x n _ h => (hF x n).trans h)

theorem meetsM_ev {tt : List (Nat × TI)} (h1 : tt.all (fun p => tyB P p.1 p.2) = true) (hm : P.follows .mixedOrders = true) {cts : List (FuncId × Con)} (hc : AllM P cts) {mts : List (FuncId × MCon)} (hmc : AllMM P mts) {la ja : Nat → Option Ann} {k : Nat}
    {f : FuncId} {fn : Func} (hf : P.funcs[f]? = some fn) (hname : (fn.name == "runtime.NumGoroutine") = false) {ps : List PK} {rs : List RK} {kp : List (Nat × List Bool)} (hn : decide (ps.length ≤ fn.ntmps) = true)
    {F : TupD (ps.map PK.ty) → Option (TupD (rs.map RK.ty ++ ioTys ps))} (hF : ∀ x, evFnM (mkCx tt cts la ja k) (fun f => mts.lookup f) ps rs kp fn x = F x) : Meets P f ⟨ps, rs, F, kp⟩ :=
  fnM_ok (cx_ok h1 hm hc) hmc.tab hf hname (of_decide_eq_true hn) (fun x _ h => (hF x).trans h)


theorem AllM.evM {tt : List (Nat × TI)} (h1 : tt.all (fun p => tyB P p.1 p.2) = true) (hm : P.follows .mixedOrders = true) {cts : List (FuncId × Con)} (hc : AllM P cts) {mts : List (FuncId × MCon)} (hmc : AllMM P mts) (la ja : Nat → Option Ann) (k : Nat)
    {f : FuncId} {fn : Func} (hf : P.funcs[f]? = some fn) {ps : List PK} (hb : fnB fn ps.length = true) {rs : List RK} {kp : List (Nat × List Bool)}
    {F : TupD (ps.map PK.ty) → Option (TupD (rs.map RK.ty ++ ioTys ps))} (hF : ∀ x, evFnM (mkCx tt cts la ja k) (fun f => mts.lookup f) ps rs kp fn x = F x) : AllM P ((f, ⟨ps, rs, F, kp⟩) :: cts) :=
  ⟨meetsM_ev h1 hm hc hmc hf (fnB_spec hb).1 (fnB_spec hb).2 hF, hc⟩

theorem AllMM.ev {tt : List (Nat × TI)} (h1 : tt.all (fun p => tyB P p.1 p.2) = true) (hm : P.follows .mixedOrders = true) {cts : List (FuncId × Con)} (hc : AllM P cts) {mts : List (FuncId × MCon)} (hmc : AllMM P mts) (la ja : Nat → Option Ann) (k : Nat)
    {f : FuncId} {fn : Func} (hf : P.funcs[f]? = some fn) (hb : fnB fn 2 = true) {τ : Ty}
    {F : τ.den → Int → Option (Int × τ.den)} (hF : ∀ x n, evMk (mkCx tt cts la ja k) (fun f => mts.lookup f) τ fn x n = F x n) : AllMM P ((f, ⟨τ, F⟩) :: mts) :=
  ⟨mmeets_ev h1 hm hc hmc hf (fnB_spec hb).1 (fnB_spec hb).2 hF, hmc⟩

end
end Vg

/- VG, part 51: plain laws of what is printed: loops; sizes, copies, comparisons. -/
namespace Vg
open Go

theorem wrap64 {n : Int} (h : -9223372036854775808 ≤ n) (h' : n < 9223372036854775808) : IntKind.i64.wrap n = n := by
  simp only [IntKind.wrap, IntKind.signed, IntKind.bits]
  simp
  omega

/-- A loop that comes nearer to its end with each round. -/
theorem loopN_ix {σ ρ : Type} {f : (σ → Option ρ) → σ → Option ρ} (g : σ → Option ρ) (m : σ → Nat) (I : σ → Prop)
    (h : ∀ G s, I s → (∀ s', I s' → m s' < m s → G s' = g s') → f G s = g s) : ∀ (k : Nat) (s : σ), I s → m s < k → loopN k f s = g s
  | 0, _, _, hm => by omega
  | k + 1, s, hi, hm => by
    show f (loopN k f) s = g s
    exact h _ s hi (fun s' hi' hm' => loopN_ix g m I h k s' hi' (by omega))

/-- Two loops in step. -/
theorem loop_sim {σ σ' ρ ρ' : Type} {f : (σ → Option ρ) → σ → Option ρ} {f' : (σ' → Option ρ') → σ' → Option ρ'} (R : σ → σ' → Prop) (S : Option ρ → Option ρ' → Prop) (h0 : S none none)
    (h : ∀ G G' s s', R s s' → (∀ t t', R t t' → S (G t) (G' t')) → S (f G s) (f' G' s')) : ∀ (k : Nat) (s : σ) (s' : σ'), R s s' → S (loopN k f s) (loopN k f' s')
  | 0, _, _, _ => h0
  | k + 1, s, s', hr => h _ _ s s' hr (fun t t' ht => loop_sim R S h0 h k t t' ht)

/-- A loop ends, and what it ends with. -/
theorem loopN_tot {σ ρ : Type} {f : (σ → Option ρ) → σ → Option ρ} (m : σ → Nat) (I : σ → Prop) (P : ρ → Prop)
    (h : ∀ G s, I s → (∀ s', I s' → m s' < m s → ∃ r, G s' = some r ∧ P r) → ∃ r, f G s = some r ∧ P r) : ∀ (k : Nat) (s : σ), I s → m s < k → ∃ r, loopN k f s = some r ∧ P r
  | 0, _, _, hm => by omega
  | k + 1, s, hi, hm => h _ s hi (fun s' hi' hm' => loopN_tot m I P h k s' hi' (by omega))

/-- How much a value holds: elements and letters. -/
def tot : (τ : Ty) → τ.den → Nat
  | .int _, _ => 0
  | .bool, _ => 0
  | .str, s => s.size
  | .sl e, l => l.length + (l.map (tot e)).sum
  | .pair a b, p => tot a p.1 + tot b p.2

/-- What is left of a bound. -/
def szv (t : Nat) (left : Int) : Int := if (t : Int) ≤ left then left - t else -1

theorem szv_neg {t : Nat} {left : Int} : szv t left < 0 ↔ ¬ (t : Int) ≤ left := by
  unfold szv
  split <;> omega

theorem szv_le {t : Nat} {left : Int} (h : 0 ≤ left) : szv t left ≤ left := by
  unfold szv
  split <;> omega

theorem szv_add {a b : Nat} {left : Int} (h : ¬ szv a left < 0) : szv b (szv a left) = szv (a + b) left := by
  rw [szv_neg] at h
  have h1 : (a : Int) ≤ left := by omega
  simp only [szv, if_pos h1]
  split <;> split <;> omega

theorem szv_over {a b : Nat} {left : Int} (h : szv a left < 0) : szv (a + b) left = -1 := by
  rw [szv_neg] at h
  unfold szv
  rw [if_neg (by omega)]

theorem szv_some {t : Nat} {left : Int} (h : ¬ szv t left < 0) : 0 ≤ szv t left ∧ (t : Int) ≤ left := by
  rw [szv_neg] at h
  have h1 : (t : Int) ≤ left := by omega
  simp only [szv, if_pos h1]
  omega

/-- A text's part of a size. -/
theorem str_sz {s : ByteArray} {left : Int} (hs : s.size ≤ maxLen) (h0 : 0 ≤ left) (h1 : left ≤ 1048576) :
    (if (decide (IntKind.i64.wrap (left - (s.size : Int)) < 0)) = true then (-1 : Int) else IntKind.i64.wrap (left - (s.size : Int))) = szv s.size left := by
  unfold maxLen at hs
  rw [wrap64 (by omega) (by omega)]
  unfold szv
  by_cases h : left - (s.size : Int) < 0
  · rw [if_pos (by simpa using h), if_neg (by omega)]
  · rw [if_neg (by simpa using h), if_pos (by omega)]

theorem str_neg {s : ByteArray} {left : Int} (hs : s.size ≤ maxLen) (h0 : 0 ≤ left) (h1 : left ≤ 1048576) : decide (IntKind.i64.wrap (left - (s.size : Int)) < 0) = decide (szv s.size left < 0) := by
  unfold maxLen at hs
  rw [wrap64 (by omega) (by omega)]
  unfold szv
  by_cases h : left - (s.size : Int) < 0
  · rw [if_neg (by omega)]; simpa using h
  · rw [if_pos (by omega)]

theorem str_wrap {s : ByteArray} {left : Int} (hs : s.size ≤ maxLen) (h0 : 0 ≤ left) (h1 : left ≤ 1048576) (h : ¬ szv s.size left < 0) : IntKind.i64.wrap (left - (s.size : Int)) = szv s.size left := by
  unfold maxLen at hs
  rw [wrap64 (by omega) (by omega)]
  rw [szv_neg] at h
  unfold szv
  rw [if_pos (by omega)]

def szS {α : Type} (k : Nat) (d : α) (S : α × Int × Unit → Option (Int × Unit)) (x : List α × Int × Unit) : Option (Int × Unit) :=
  if (decide (((IntKind.i64.wrap (x.2.1 - ((List.length x.1 : Nat) : Int))) : Int) < 0)) = true then
    some ((-1), ())
  else
    loopN k (fun G1 (t2 : List α × Int × Int × Unit) =>
      if (decide ((t2.2.2.1 : Int) < ((List.length t2.1 : Nat) : Int))) = true then
        if (decide (0 ≤ t2.2.2.1 ∧ t2.2.2.1 < ((List.length t2.1 : Nat) : Int))) = true then
          Option.bind (S (List.getD t2.1 (Int.toNat t2.2.2.1) d, t2.2.1, ())) fun (r3 : Int × Unit) =>
          if (decide ((r3.1 : Int) < 0)) = true then
            some ((-1), ())
          else
            G1 (t2.1, r3.1, IntKind.i64.wrap (t2.2.2.1 + 1), ())
        else
          none
      else
        some (t2.2.1, ())) (x.1, IntKind.i64.wrap (x.2.1 - ((List.length x.1 : Nat) : Int)), 0, ())

theorem getD_mem {α : Type} {l : List α} {i : Nat} {d : α} (h : i < l.length) : l.getD i d ∈ l := by
  rw [List.getD_eq_getElem?_getD, List.getElem?_eq_getElem h]; simp

theorem drop_getD {α : Type} {l : List α} {i : Nat} {d : α} (h : i < l.length) : l.drop i = l.getD i d :: l.drop (i + 1) := by
  rw [List.drop_eq_getElem_cons h, List.getD_eq_getElem?_getD, List.getElem?_eq_getElem h]; rfl

theorem szS_gen {α : Type} {k : Nat} {d : α} {S : α × Int × Unit → Option (Int × Unit)} {t : α → Nat} {l : List α} {left : Int} (hk : 9223372036854775808 ≤ k) (hl : l.length ≤ maxLen) (h0 : 0 ≤ left) (h1 : left ≤ 1048576)
    (hS : ∀ e ∈ l, ∀ left, 0 ≤ left → left ≤ 1048576 → ∃ r, S (e, left, ()) = some (r, ()) ∧ (r < 0 ↔ szv (t e) left < 0) ∧ (¬ szv (t e) left < 0 → r = szv (t e) left)) : szS k d S (l, left, ()) = some (szv (l.length + (l.map t).sum) left, ()) := by
  have hlen : (l.length : Int) < 9223372036854775808 := by
    unfold maxLen at hl; omega
  unfold szS
  simp only
  rw [wrap64 (by omega) (by omega)]
  by_cases hneg : left - (l.length : Int) < 0
  · rw [if_pos (by simpa using hneg)]
    unfold szv
    rw [if_neg (by omega)]
  · rw [if_neg (by simpa using hneg)]
    rw [loopN_ix (g := fun (s : List α × Int × Int × Unit) => some (szv (((s.1.drop s.2.2.1.toNat).map t).sum) s.2.1, ())) (m := fun (s : List α × Int × Int × Unit) => s.1.length - s.2.2.1.toNat)
      (I := fun (s : List α × Int × Int × Unit) => s.1 = l ∧ 0 ≤ s.2.2.1 ∧ s.2.2.1 ≤ (l.length : Int) ∧ 0 ≤ s.2.1 ∧ s.2.1 ≤ 1048576)]
    · simp only [Int.toNat_zero, List.drop_zero]
      unfold szv
      congr 2
      split <;> split <;> omega
    · rintro G ⟨l', lf, i, u⟩ ⟨he, hi0, hi1, hl0, hl1⟩ hG
      change l' = l at he
      subst he
      simp only at hi0 hi1 hl0 hl1 hG ⊢
      by_cases hi : i < (l'.length : Int)
      · rw [if_pos (by simpa using hi), if_pos (by simpa using ⟨hi0, hi⟩)]
        have hin : i.toNat < l'.length := by omega
        obtain ⟨r, hr, hr1, hr2⟩ := hS _ (getD_mem (d := d) hin) lf hl0 hl1
        rw [hr, Option.bind_some, drop_getD (d := d) hin]
        simp only [List.map_cons, List.sum_cons]
        by_cases hn : szv (t (l'.getD i.toNat d)) lf < 0
        · rw [if_pos (by simpa using hr1.2 hn), szv_over hn]
        · rw [if_neg (by simpa using fun h => hn (hr1.1 h)), ← szv_add hn, hr2 hn]
          have hs := szv_some hn
          have hle := szv_le (t := t (l'.getD i.toNat d)) hl0
          rw [wrap64 (by omega) (by omega)]
          rw [hG (l', szv (t (l'.getD i.toNat d)) lf, i + 1, ()) ⟨rfl, by simp only; omega, by simp only; omega, by simp only; omega, by simp only; omega⟩ (by simp only; omega)]
          simp only
          rw [show (i + 1).toNat = i.toNat + 1 by omega]
      · rw [if_neg (by simpa using hi)]
        rw [List.drop_eq_nil_of_le (by omega)]
        simp [szv, hl0]
    · exact ⟨rfl, by simp, by simp, by simp only; omega, by simp only; omega⟩
    · simp only
      omega

theorem szS_ok {α : Type} {k : Nat} {d : α} {S : α × Int × Unit → Option (Int × Unit)} {t : α → Nat} {l : List α} {left : Int} (hk : 9223372036854775808 ≤ k) (hl : l.length ≤ maxLen) (h0 : 0 ≤ left) (h1 : left ≤ 1048576)
    (hS : ∀ e ∈ l, ∀ left, 0 ≤ left → left ≤ 1048576 → S (e, left, ()) = some (szv (t e) left, ())) : szS k d S (l, left, ()) = some (szv (l.length + (l.map t).sum) left, ()) :=
  szS_gen hk hl h0 h1 (fun e he left a b => ⟨_, hS e he left a b, Iff.rfl, fun _ => rfl⟩)

theorem szT_ok {k : Nat} {l : List ByteArray} {left : Int} (hk : 9223372036854775808 ≤ k) (hx : Fits (.sl .str) l) (h0 : 0 ≤ left) (h1 : left ≤ 1048576) :
    szS k ByteArray.empty (fun z => some (IntKind.i64.wrap (z.2.1 - ((ByteArray.size z.1 : Nat) : Int)), ())) (l, left, ()) = some (szv (tot (.sl .str) l) left, ()) :=
  szS_gen (t := ByteArray.size) hk hx.1 h0 h1 (fun e he lf a b => ⟨_, rfl, by have := str_neg (hx.2 e he) a b; simpa using this, fun h => str_wrap (hx.2 e he) a b h⟩)

def szZ {α : Type} (x : List α × Int × Unit) : Option (Int × Unit) :=
  if (decide (((IntKind.i64.wrap (x.2.1 - ((List.length x.1 : Nat) : Int))) : Int) < 0)) = true then
    some ((-1), ())
  else
    some (IntKind.i64.wrap (x.2.1 - ((List.length x.1 : Nat) : Int)), ())

/-- A type of numbers alone. -/
def Ty.noTot : Ty → Bool
  | .int _ | .bool => true
  | .pair a b => a.noTot && b.noTot
  | _ => false

theorem noTot_ok : ∀ {τ : Ty} (x : τ.den), τ.noTot = true → tot τ x = 0
  | .int _, _, _ | .bool, _, _ => rfl
  | .pair a b, x, h => by
    simp only [Ty.noTot, Bool.and_eq_true] at h
    simp only [tot, noTot_ok x.1 h.1, noTot_ok x.2 h.2]
  | .str, _, h | .sl _, _, h => by simp [Ty.noTot] at h

theorem szZ_ok {e : Ty} {k : Nat} {F : Nat → List e.den × Int × Unit → Option (Int × Unit)} (hF : ∀ x, F k x = szZ x) (hz : e.noTot = true) {l : List e.den} {left : Int} (hx : Fits (.sl e) l) (h0 : 0 ≤ left) (h1 : left ≤ 1048576) :
    F k (l, left, ()) = some (szv (tot (.sl e) l) left, ()) := by
  have hl : l.length ≤ maxLen := hx.1
  unfold maxLen at hl
  have ht : tot (.sl e) l = l.length := by
    have : ∀ m : List e.den, (m.map (tot e)).sum = 0 := by
      intro m
      induction m with
      | nil => rfl
      | cons a m ih => simp only [List.map_cons, List.sum_cons, ih, noTot_ok a hz]
    simp only [tot, this]; omega
  rw [hF, ht]
  simp only [szZ]
  rw [wrap64 (by omega) (by omega)]
  unfold szv
  by_cases h : left - (l.length : Int) < 0
  · rw [if_pos (by simpa using h), if_neg (by omega)]
  · rw [if_neg (by simpa using h), if_pos (by omega)]

theorem szv_big {a t : Nat} {left : Int} (h : szv a left < 0) (hle : a ≤ t) : szv t left = -1 := by
  rw [szv_neg] at h
  unfold szv
  rw [if_neg (by omega)]

def toS {α : Type} (k : Nat) (d : α) (S : α × Unit → Option (α × Unit)) (x : List α × Unit) : Option (List α × Unit) :=
  if (decide (0 ≤ ((List.length x.1 : Nat) : Int) ∧ ((List.length x.1 : Nat) : Int) < 4294967296 ∧ ((List.length x.1 : Nat) : Int) = ((List.length x.1 : Nat) : Int))) = true then
    loopN k (fun G1 (t2 : List α × List α × Int × Unit) =>
      if (decide ((t2.2.2.1 : Int) < ((List.length t2.1 : Nat) : Int))) = true then
        if (decide (0 ≤ t2.2.2.1 ∧ t2.2.2.1 < ((List.length t2.1 : Nat) : Int))) = true then
          Option.bind (S (List.getD t2.1 (Int.toNat t2.2.2.1) d, ())) fun (r3 : α × Unit) =>
          if (decide (0 ≤ t2.2.2.1 ∧ t2.2.2.1 < ((List.length t2.2.1 : Nat) : Int))) = true then
            G1 (t2.1, List.set t2.2.1 (Int.toNat t2.2.2.1) r3.1, IntKind.i64.wrap (t2.2.2.1 + 1), ())
          else
            none
        else
          none
      else
        some (t2.2.1, ())) (x.1, List.replicate (Int.toNat ((List.length x.1 : Nat) : Int)) d, 0, ())
  else
    none

theorem toS_ok {α : Type} {k : Nat} {d : α} {S : α × Unit → Option (α × Unit)} {l : List α} (hk : 9223372036854775808 ≤ k) (hl : l.length ≤ 1048576) (hS : ∀ e ∈ l, S (e, ()) = some (e, ())) : toS k d S (l, ()) = some (l, ()) := by
  unfold toS
  simp only
  rw [if_pos (by simp; omega)]
  rw [loopN_ix (g := fun (s : List α × List α × Int × Unit) => some (l, ())) (m := fun (s : List α × List α × Int × Unit) => l.length - s.2.2.1.toNat)
    (I := fun (s : List α × List α × Int × Unit) => s.1 = l ∧ 0 ≤ s.2.2.1 ∧ s.2.2.1 ≤ (l.length : Int) ∧ s.2.1 = l.take s.2.2.1.toNat ++ List.replicate (l.length - s.2.2.1.toNat) d)]
  · rintro G ⟨l', o, i, u⟩ ⟨he, hi0, hi1, ho⟩ hG
    change l' = l at he
    subst he
    simp only at hi0 hi1 ho hG ⊢
    subst ho
    by_cases hi : i < (l'.length : Int)
    · have hin : i.toNat < l'.length := by omega
      rw [if_pos (by simpa using hi), if_pos (by simpa using ⟨hi0, hi⟩), hS _ (getD_mem hin), Option.bind_some]
      rw [if_pos (by simp; omega), wrap64 (by omega) (by omega)]
      refine hG (l', _, i + 1, ()) ⟨rfl, by simp only; omega, by simp only; omega, ?_⟩ (by simp only; omega)
      simp only
      have hlt : (l'.take i.toNat).length = i.toNat := by simp; omega
      rw [List.set_append_right _ _ (by omega), hlt, Nat.sub_self]
      rw [show l'.length - i.toNat = (l'.length - (i + 1).toNat) + 1 by omega, List.replicate_succ, List.set_cons_zero]
      have ht : l'.take (i.toNat + 1) = l'.take i.toNat ++ [l'[i.toNat]] := by
        rw [List.take_add_one, List.getElem?_eq_getElem hin]; rfl
      rw [show (i + 1).toNat = i.toNat + 1 by omega, ht, List.getD_eq_getElem?_getD, List.getElem?_eq_getElem hin, List.append_assoc]
      rfl
    · rw [if_neg (by simpa using hi)]
      have : i.toNat = l'.length := by omega
      rw [this]
      simp
  · exact ⟨rfl, by simp, by simp, by simp⟩
  · simp only
    omega

theorem toI_ok {α : Type} {k : Nat} {d : α} {l : List α} (hk : 9223372036854775808 ≤ k) (hl : l.length ≤ 1048576) : toS k d (fun z => some (z.1, ())) (l, ()) = some (l, ()) :=
  toS_ok hk hl (fun _ _ => rfl)

def eqS {α : Type} (k : Nat) (d : α) (S : α × α × Unit → Option (Bool × Unit)) (x : List α × List α × Unit) : Option (Bool × Unit) :=
  if ((((List.length x.1 : Nat) : Int) : Int) != ((List.length x.2.1 : Nat) : Int)) = true then
    some (false, ())
  else
    loopN k (fun G1 (t2 : List α × List α × Int × Unit) =>
      if (decide ((t2.2.2.1 : Int) < ((List.length t2.1 : Nat) : Int))) = true then
        if (decide (0 ≤ t2.2.2.1 ∧ t2.2.2.1 < ((List.length t2.1 : Nat) : Int))) = true then
          if (decide (0 ≤ t2.2.2.1 ∧ t2.2.2.1 < ((List.length t2.2.1 : Nat) : Int))) = true then
            Option.bind (S (List.getD t2.1 (Int.toNat t2.2.2.1) d, List.getD t2.2.1 (Int.toNat t2.2.2.1) d, ())) fun (r3 : Bool × Unit) =>
            if (!r3.1) = true then
              some (false, ())
            else
              G1 (t2.1, t2.2.1, IntKind.i64.wrap (t2.2.2.1 + 1), ())
          else
            none
        else
          none
      else
        some (true, ())) (x.1, x.2.1, 0, ())

theorem eqS_ok {α : Type} {k : Nat} {d : α} {S : α × α × Unit → Option (Bool × Unit)} {l : List α} (hk : 9223372036854775808 ≤ k) (hl : l.length ≤ 281474976710656) (hS : ∀ e ∈ l, S (e, e, ()) = some (true, ())) : eqS k d S (l, l, ()) = some (true, ()) := by
  unfold eqS
  simp only
  rw [if_neg (by simp)]
  rw [loopN_ix (g := fun (s : List α × List α × Int × Unit) => some (true, ())) (m := fun (s : List α × List α × Int × Unit) => l.length - s.2.2.1.toNat)
    (I := fun (s : List α × List α × Int × Unit) => s.1 = l ∧ s.2.1 = l ∧ 0 ≤ s.2.2.1 ∧ s.2.2.1 ≤ (l.length : Int))]
  · rintro G ⟨l', o, i, u⟩ ⟨he, ho, hi0, hi1⟩ hG
    change l' = l at he
    subst he
    simp only at hi0 hi1 ho hG ⊢
    subst ho
    by_cases hi : i < (o.length : Int)
    · have hin : i.toNat < o.length := by omega
      rw [if_pos (by simpa using hi), if_pos (by simpa using ⟨hi0, hi⟩), if_pos (by simpa using ⟨hi0, hi⟩), hS _ (getD_mem hin), Option.bind_some]
      rw [if_neg (by simp), wrap64 (by omega) (by omega)]
      exact hG (o, o, i + 1, ()) ⟨rfl, rfl, by simp only; omega, by simp only; omega⟩ (by simp only; omega)
    · rw [if_neg (by simpa using hi)]
  · exact ⟨rfl, rfl, by simp, by simp⟩
  · simp only
    omega

theorem eqI_ok {κ : IntKind} {k : Nat} {l : List (Ty.den (.int κ))} (hk : 9223372036854775808 ≤ k) (hl : l.length ≤ 281474976710656) : eqS (α := Int) k 0 (fun z => some ((z.1 : Int) == z.2.1, ())) (l, l, ()) = some (true, ()) :=
  eqS_ok (α := Int) hk hl (fun e _ => by simp)

theorem eqT_ok {k : Nat} {l : List ByteArray} (hk : 9223372036854775808 ≤ k) (hl : l.length ≤ 281474976710656) : eqS k ByteArray.empty (fun z => some (ByteArray.toList z.1 == ByteArray.toList z.2.1, ())) (l, l, ()) = some (true, ()) :=
  eqS_ok hk hl (fun e _ => by simp)

/-- Two lists, place by place. -/
def allEq {α : Type} (p : α → α → Bool) : List α → List α → Bool
  | [], [] => true
  | a :: l, b :: m => p a b && allEq p l m
  | _, _ => false

theorem allEq_len {α : Type} {p : α → α → Bool} : ∀ {l m : List α}, l.length ≠ m.length → allEq p l m = false
  | [], [], h => absurd rfl h
  | a :: l, b :: m, h => by
    simp only [allEq]
    rw [allEq_len (l := l) (m := m) (fun e => h (by simp [e]))]
    simp
  | [], _ :: _, _ | _ :: _, [], _ => rfl

theorem eqS_all {α : Type} {k : Nat} {d : α} {S : α × α × Unit → Option (Bool × Unit)} {p : α → α → Bool} {l m : List α} (hk : 9223372036854775808 ≤ k) (hl : l.length ≤ 281474976710656) (hS : ∀ a ∈ l, ∀ b ∈ m, S (a, b, ()) = some (p a b, ())) :
    eqS k d S (l, m, ()) = some (allEq p l m, ()) := by
  unfold eqS
  simp only
  by_cases hlen : l.length = m.length
  · rw [if_neg (by simp [hlen])]
    rw [loopN_ix (g := fun (s : List α × List α × Int × Unit) => some (allEq p (l.drop s.2.2.1.toNat) (m.drop s.2.2.1.toNat), ())) (m := fun (s : List α × List α × Int × Unit) => l.length - s.2.2.1.toNat)
      (I := fun (s : List α × List α × Int × Unit) => s.1 = l ∧ s.2.1 = m ∧ 0 ≤ s.2.2.1 ∧ s.2.2.1 ≤ (l.length : Int))]
    · simp
    · rintro G ⟨l', m', i, u⟩ ⟨e1, e2, hi0, hi1⟩ hG
      change l' = l at e1
      change m' = m at e2
      subst e1 e2
      simp only at hi0 hi1 hG ⊢
      by_cases hi : i < (l'.length : Int)
      · have h1 : i.toNat < l'.length := by omega
        have h2 : i.toNat < m'.length := by omega
        rw [if_pos (by simpa using hi), if_pos (by simpa using ⟨hi0, hi⟩), if_pos (by simpa using ⟨hi0, by omega⟩)]
        rw [hS _ (getD_mem h1) _ (getD_mem h2), Option.bind_some, drop_getD (d := d) h1, drop_getD (d := d) h2]
        simp only [allEq]
        cases p (l'.getD i.toNat d) (m'.getD i.toNat d) with
        | true =>
          rw [if_neg (by simp), wrap64 (by omega) (by omega), hG (l', m', i + 1, ()) ⟨rfl, rfl, by simp only; omega, by simp only; omega⟩ (by simp only; omega)]
          simp only [Bool.true_and]
          rw [show (i + 1).toNat = i.toNat + 1 by omega]
        | false => rfl
      · rw [if_neg (by simpa using hi), List.drop_eq_nil_of_le (by omega), List.drop_eq_nil_of_le (by omega)]
        rfl
    · exact ⟨rfl, rfl, by simp, by simp⟩
    · simp only
      omega
  · rw [if_pos (by simp; omega), allEq_len hlen]

def eqR {α : Type} (k : Nat) (d : α) (S : α × α × Unit → Option (Bool × Unit)) (x : List α × List α × Unit) : Option (Bool × Unit) :=
  if ((((List.length x.1 : Nat) : Int) : Int) != ((List.length x.2.1 : Nat) : Int)) = true then
    some (false, ())
  else
    loopN k (fun G1 (t2 : List α × List α × Int × Int × Unit) =>
      if (decide ((t2.2.2.2.1 : Int) < t2.2.2.1)) = true then
        if (decide (0 ≤ t2.2.2.2.1 ∧ t2.2.2.2.1 < ((List.length t2.1 : Nat) : Int))) = true then
          if (decide (0 ≤ t2.2.2.2.1 ∧ t2.2.2.2.1 < ((List.length t2.2.1 : Nat) : Int))) = true then
            Option.bind (S (List.getD t2.1 (Int.toNat t2.2.2.2.1) d, List.getD t2.2.1 (Int.toNat t2.2.2.2.1) d, ())) fun (r3 : Bool × Unit) =>
            if (!r3.1) = true then
              some (false, ())
            else
              G1 (t2.1, t2.2.1, t2.2.2.1, IntKind.i64.wrap (t2.2.2.2.1 + 1), ())
          else
            none
        else
          none
      else
        some (true, ())) (x.1, x.2.1, ((List.length x.1 : Nat) : Int), 0, ())

theorem eqR_all {α : Type} {k : Nat} {d : α} {S : α × α × Unit → Option (Bool × Unit)} {p : α → α → Bool} {l m : List α} (hk : 9223372036854775808 ≤ k) (hl : l.length ≤ 281474976710656) (hS : ∀ a ∈ l, ∀ b ∈ m, S (a, b, ()) = some (p a b, ())) :
    eqR k d S (l, m, ()) = some (allEq p l m, ()) := by
  unfold eqR
  simp only
  by_cases hlen : l.length = m.length
  · rw [if_neg (by simp [hlen])]
    rw [loopN_ix (g := fun (s : List α × List α × Int × Int × Unit) => some (allEq p (l.drop s.2.2.2.1.toNat) (m.drop s.2.2.2.1.toNat), ())) (m := fun (s : List α × List α × Int × Int × Unit) => l.length - s.2.2.2.1.toNat)
      (I := fun (s : List α × List α × Int × Int × Unit) => s.1 = l ∧ s.2.1 = m ∧ s.2.2.1 = (l.length : Int) ∧ 0 ≤ s.2.2.2.1 ∧ s.2.2.2.1 ≤ (l.length : Int))]
    · simp
    · rintro G ⟨l', m', n, i, u⟩ ⟨e1, e2, e3, hi0, hi1⟩ hG
      change l' = l at e1
      change m' = m at e2
      change n = _ at e3
      subst e1 e2 e3
      simp only at hi0 hi1 hG ⊢
      by_cases hi : i < (l'.length : Int)
      · have h1 : i.toNat < l'.length := by omega
        have h2 : i.toNat < m'.length := by omega
        rw [if_pos (by simpa using hi), if_pos (by simpa using ⟨hi0, hi⟩), if_pos (by simpa using ⟨hi0, by omega⟩)]
        rw [hS _ (getD_mem h1) _ (getD_mem h2), Option.bind_some, drop_getD (d := d) h1, drop_getD (d := d) h2]
        simp only [allEq]
        cases p (l'.getD i.toNat d) (m'.getD i.toNat d) with
        | true =>
          rw [if_neg (by simp), wrap64 (by omega) (by omega), hG (l', m', _, i + 1, ()) ⟨rfl, rfl, rfl, by simp only; omega, by simp only; omega⟩ (by simp only; omega)]
          simp only [Bool.true_and]
          rw [show (i + 1).toNat = i.toNat + 1 by omega]
        | false => rfl
      · rw [if_neg (by simpa using hi), List.drop_eq_nil_of_le (by omega), List.drop_eq_nil_of_le (by omega)]
        rfl
    · exact ⟨rfl, rfl, rfl, by simp, by simp⟩
    · simp only
      omega
  · rw [if_pos (by simp; omega), allEq_len hlen]

theorem ite_some {α : Type} {c : Prop} [Decidable c] (a b : α) : (if c then some a else some b) = some (if c then a else b) := by split <;> rfl

theorem toList_inj {a b : ByteArray} (h : a.toList = b.toList) : a = b := by
  rw [ByteArray.toList_eq, ByteArray.toList_eq] at h
  cases a; cases b
  simp at h
  rw [h]

theorem eqv_iff : ∀ {τ : Ty} {a b : τ.den}, τ.flat = true → (eqv τ a b = true ↔ a = b)
  | .int _, a, b, _ => by simp [eqv]
  | .bool, a, b, _ => by simp [eqv]
  | .str, a, b, _ => by
    simp only [eqv, beq_iff_eq]
    exact ⟨toList_inj, fun h => by rw [h]⟩
  | .pair x y, a, b, h => by
    simp only [Ty.flat, Bool.and_eq_true] at h
    simp only [eqv, Bool.and_eq_true, eqv_iff h.1, eqv_iff h.2]
    exact ⟨fun h => Prod.ext h.1 h.2, fun h => by rw [h]; exact ⟨rfl, rfl⟩⟩
  | .sl _, _, _, h => by simp [Ty.flat] at h

theorem le_sum {α : Type} {f : α → Nat} : ∀ {l : List α} {x : α}, x ∈ l → f x ≤ (l.map f).sum
  | y :: l, x, h => by
    simp only [List.map_cons, List.sum_cons]
    rcases List.mem_cons.1 h with rfl | h
    · omega
    · have := le_sum (f := f) h; omega

theorem tot_mem {e : Ty} {l : List e.den} {x : e.den} (hx : x ∈ l) : tot e x ≤ tot (.sl e) l := by
  simp only [tot]
  have := le_sum (f := tot e) hx
  omega

theorem tot_len {e : Ty} {l : List e.den} : l.length ≤ tot (.sl e) l := by simp only [tot]; omega

end Vg

/- VG, part 52: loops that ask one thing of each place. -/
namespace Vg
open Go

/-- p at all places from a on, below n. -/
def allB (a n : Nat) (p : Nat → Bool) : Bool := (List.range' a (n - a)).all p

theorem allB_iff {a n : Nat} {p : Nat → Bool} : allB a n p = true ↔ ∀ i, a ≤ i → i < n → p i = true := by
  simp only [allB, List.all_eq_true, List.mem_range'_1]
  constructor
  · intro h i h1 h2; exact h i ⟨h1, by omega⟩
  · intro h i hi; exact h i hi.1 (by omega)

theorem allB_step {a n : Nat} {p : Nat → Bool} (h : a < n) : allB a n p = (p a && allB (a + 1) n p) := by
  unfold allB
  rw [show n - a = (n - (a + 1)) + 1 by omega, List.range'_succ]
  rfl

theorem allB_nil {a n : Nat} {p : Nat → Bool} (h : n ≤ a) : allB a n p = true := by
  unfold allB
  rw [show n - a = 0 by omega]
  rfl

theorem allB_congr {a n : Nat} {p q : Nat → Bool} (h : ∀ i, a ≤ i → i < n → p i = q i) : allB a n p = allB a n q := by
  rw [Bool.eq_iff_iff, allB_iff, allB_iff]
  exact ⟨fun H i h1 h2 => h i h1 h2 ▸ H i h1 h2, fun H i h1 h2 => (h i h1 h2).symm ▸ H i h1 h2⟩

theorem allB_and {a n : Nat} {p q : Nat → Bool} : allB a n (fun i => p i && q i) = (allB a n p && allB a n q) := by
  rw [Bool.eq_iff_iff, Bool.and_eq_true, allB_iff, allB_iff, allB_iff]
  simp only [Bool.and_eq_true]
  exact ⟨fun H => ⟨fun i h1 h2 => (H i h1 h2).1, fun i h1 h2 => (H i h1 h2).2⟩, fun H i h1 h2 => ⟨H.1 i h1 h2, H.2 i h1 h2⟩⟩

/-- No more places than m: asked of each place. -/
theorem allB_lt {n m : Nat} : allB 0 n (fun i => decide (i < m)) = decide (n ≤ m) := by
  rw [Bool.eq_iff_iff, allB_iff]
  simp only [decide_eq_true_eq]
  constructor
  · intro h
    rcases Nat.lt_or_ge m n with h1 | h1
    · have := h m (by omega) h1; omega
    · exact h1
  · intro h i _ h2; omega

/-- A loop that ends early where p fails. -/
theorem loop_all {σ ρ : Type} {f : (σ → Option ρ) → σ → Option ρ} (st : Nat → σ) (p : Nat → Bool) (n : Nat) {e no : Option ρ}
    (hstep : ∀ G i, i < n → f G (st i) = if p i = true then G (st (i + 1)) else no) (hend : ∀ G i, n ≤ i → f G (st i) = e) :
    ∀ (k a : Nat), n - a < k → loopN k f (st a) = if allB a n p = true then e else no
  | 0, _, h => by omega
  | k + 1, a, h => by
    show f (loopN k f) (st a) = _
    by_cases ha : a < n
    · rw [hstep _ a ha, allB_step ha, loop_all st p n hstep hend k (a + 1) (by omega)]
      cases p a <;> simp
    · rw [hend _ a (by omega), allB_nil (by omega), if_pos rfl]

/-- A loop that ends early where p holds. -/
theorem loop_any {σ ρ : Type} {f : (σ → Option ρ) → σ → Option ρ} (st : Nat → σ) (p : Nat → Bool) (n : Nat) {e yes : Option ρ}
    (hstep : ∀ G i, i < n → f G (st i) = if p i = true then yes else G (st (i + 1))) (hend : ∀ G i, n ≤ i → f G (st i) = e) (k a : Nat) (hk : n - a < k) :
    loopN k f (st a) = if allB a n (fun i => !p i) = true then e else yes :=
  loop_all st (fun i => !p i) n (fun G i hi => by rw [hstep G i hi]; cases p i <;> rfl) hend k a hk

/-- A loop that goes through all its states. -/
theorem loop_run {σ ρ : Type} {f : (σ → Option ρ) → σ → Option ρ} (st : Nat → σ) (n : Nat) {e : Option ρ} (hstep : ∀ G i, i < n → f G (st i) = G (st (i + 1))) (hend : ∀ G, f G (st n) = e) :
    ∀ (k a : Nat), a ≤ n → n - a < k → loopN k f (st a) = e
  | 0, _, _, h => by omega
  | k + 1, a, ha, h => by
    show f (loopN k f) (st a) = _
    by_cases hn : a = n
    · subst hn; exact hend _
    · rw [hstep _ a (by omega), loop_run st n hstep hend k (a + 1) (by omega) (by omega)]

theorem wrapS {i : Nat} (h : i < 4611686018427387904) : IntKind.i64.wrap ((i : Int) + 1) = ((i + 1 : Nat) : Int) := by
  rw [wrap64 (by omega) (by omega)]; rfl

theorem wrapP {i : Nat} (h : i < 4611686018427387904) : IntKind.i64.wrap ((i : Int) - 1) = (i : Int) - 1 := wrap64 (by omega) (by omega)

theorem in_nat {i n : Nat} (h : i < n) : (decide ((0 : Int) ≤ (i : Int) ∧ (i : Int) < (n : Int))) = true := by simp; omega

theorem lt_nat {i n : Nat} : (decide ((i : Int) < (n : Int))) = decide (i < n) := by simp

end Vg

/- VG, part 53: contracts of library functions, from what the shelf of contracts says of them. -/
namespace Vg
open Go Go.RowKit

theorem repL_str {w : World} : ∀ {l : List ByteArray} {cs : List Value} {B : List Nat}, RepL (Rep w .str) l cs B → cs = l.map Value.string
  | [], _, _, h => h.1
  | x :: l, cs, B, h => by
    obtain ⟨c1, c2, B1, B2, rfl, _, h1, h2⟩ := h
    rw [h1.1, repL_str h2]
    rfl

theorem map_at {l : List ByteArray} {j : Nat} {x : ByteArray} (h : l[j]? = some x) : (l.map Value.string)[j]? = some (.string x) := by rw [List.getElem?_map, h]; rfl

/-- A value result, no memory: what is left behind where nothing old has turned. -/
theorem post_below {ps : List PK} {τ : Ty} {F : TupD (ps.map PK.ty) → Option (TupD ([RK.val τ .leaf].map RK.ty ++ ioTys ps))} {w w' : World} {G0 : Gh} {args : List Value} {nt : Nat} {L : List SV} (hlot : Lot w G0 L args nt)
    (hio : ∀ x : TupD (ioTys ps), iosOf [2, 1] ps x (entBox ps 0 3) = fun _ => []) {y : TupD ([RK.val τ .leaf].map RK.ty ++ ioTys ps)} {mv : Value} (hb : Below w.heap.size w w')
    (hv : SOk w' G0 (.d ⟨τ, y.1, .leaf⟩) mv) : Post ⟨ps, [.val τ .leaf], F, []⟩ w G0 args y mv w' G0 [mv] nt where
  val := rfl
  len := rfl
  res i := by
    cases i with
    | zero => exact hv
    | succ i =>
      have : (scatter [RK.val τ .leaf] (ioTys ps) y (entNt ps 3) [2, 1]).1.getD (i + 1) .no = .no := by
        show ([SV.d ⟨τ, y.1, Sh.leaf⟩]).getD (i + 1) .no = .no
        rfl
      rw [this]
      trivial
  ios t i v h := by rw [hio] at h; cases h
  frame b hbs _ := ⟨rfl, hb.block b hbs⟩
  one b h := ⟨(hlot.colU b (by omega)).2, h⟩
  size := hb.size
  os := hb.os
  tape := hb.tape
  output := hb.output
  lt b h := Nat.lt_of_lt_of_le (hlot.colU b h).2 hb.size
  fresh b h := by rw [hb.block b (hlot.colU b (by omega)).2]; exact hlot.fresh b h
  kept q hq := by cases hq

theorem upon_calls {P : Program} {f : FuncId} {fn : Func} (hf : P.funcs[f]? = some fn) (hname : (fn.name == "runtime.NumGoroutine") = false) (hb : fn.body.isSome = true) {w : World} {args : Array Value} {R : Value → World → Prop}
    (h : Calls P f args w (fun e w' => ∃ v, e = .returned v ∧ R v w')) : Upon P f args w R := by
  obtain ⟨c, hc⟩ := Option.isSome_iff_exists.1 hb
  have hrun : (callFunc f args).run P w = .ok (.enter f args) w := by
    have hne : fn.name ≠ "runtime.NumGoroutine" := by simpa using hname
    unfold callFunc
    simp [hf, hne, hc]
  unfold Upon
  rw [hrun]
  exact h

def joinL (l : List ByteArray) (sep : ByteArray) : List UInt8 := Lib.join (l.map (·.data.toList)) sep.data.toList

/-- strings.Join. -/
def joinF (x : List ByteArray × ByteArray × Unit) : Option (ByteArray × Unit) :=
  if x.1.length ≤ 140737488355328 ∧ (joinL x.1 x.2.1).length ≤ 140737488355328 then some (⟨(joinL x.1 x.2.1).toArray⟩, ()) else none

theorem meets_join {P : Program} {f : FuncId} {fn : Func} (hf : P.funcs[f]? = some fn) (hname : (fn.name == "runtime.NumGoroutine") = false) (hb : fn.body.isSome = true)
    (h0 : ∀ (a : Option Addr) (c : Nat) (sep : ByteArray) (w : World), Calls P f #[.slice a 0 c, .string sep] w fun e w' => e = .returned (.string ⟨#[]⟩) ∧ w' = w)
    (h1 : ∀ (bk o c : Nat) (xs : List ByteArray) (sep : ByteArray) (w : World), (∀ (j : Nat) x, xs[j]? = some x → w.cell? ⟨bk, o + j, none⟩ = some (.string x)) → bk < w.heap.size → xs.length ≤ 140737488355328 → xs.length ≤ c →
      (Lib.join (xs.map (·.data.toList)) sep.data.toList).length ≤ 140737488355328 →
      Calls P f #[.slice (some ⟨bk, o, none⟩) xs.length c, .string sep] w fun e w' => e = .returned (.string ⟨(Lib.join (xs.map (·.data.toList)) sep.data.toList).toArray⟩) ∧ Below w.heap.size w w') :
    Meets P f ⟨[.val (.sl .str) .shr, .val .str .leaf], [.val .str .leaf], joinF, []⟩ := by
  intro w G0 args x y hy hlot
  obtain ⟨l, sep, u⟩ := x
  have hlen : args.length = 2 := hlot.len
  obtain ⟨v0, v1, rfl⟩ : ∃ v0 v1, args = [v0, v1] := by
    match args, hlen with
    | [a, b], _ => exact ⟨a, b, rfl⟩
  have s0 : SOk w G0 (.d ⟨.sl .str, l, .sl (.sha [1])⟩) v0 := hlot.slots 0
  have s1 : SOk w G0 (.d ⟨.str, sep, .leaf⟩) v1 := hlot.slots 1
  obtain ⟨cs1, e1, q1⟩ := s1
  have q1' : cs1 = [.string sep] := q1
  subst q1'
  have e1' : v1 = .string sep := e1
  subst e1'
  obtain ⟨cs0, e0, v, rfl, hrow⟩ := s0
  have e0' : v0 = v := e0
  subst e0'
  have hy : joinF (l, sep, u) = some y := hy
  unfold joinF at hy
  split at hy
  · rename_i hc
    have hy' := Option.some.inj hy
    subst hy'
    refine upon_calls hf hname hb ?_
    obtain ⟨⟨B, hrep, _⟩, _⟩ := hrow
    have fin : ∀ w', Below w.heap.size w w' → ∃ G' vs nt, Post ⟨[.val (.sl .str) .shr, .val .str .leaf], [.val .str .leaf], joinF, []⟩ w G0 [v0, .string sep] (⟨(joinL l sep).toArray⟩, ()) (.string ⟨(joinL l sep).toArray⟩) w' G' vs nt :=
      fun w' hbl => ⟨G0, _, _, post_below (ps := [.val (.sl .str) .shr, .val .str .leaf]) (τ := .str) (F := joinF) (y := (⟨(joinL l sep).toArray⟩, ())) hlot (fun _ => by funext n; rfl) hbl ⟨[.string ⟨(joinL l sep).toArray⟩], rfl, rfl⟩⟩
    rcases hrep with ⟨⟨ao, rfl⟩, rfl, _⟩ | ⟨b, off, cap, c, el, fz, Bs, rfl, hcap, hbk, hsz, _, hl⟩
    · refine (h0 ao 0 sep w).mono fun e w' ⟨he, hw⟩ => ⟨_, he, ?_⟩
      subst hw
      exact fin _ (Below.refl _ _)
    · have hcs := repL_str hl
      refine (h1 b off cap l sep w (fun j x hj => ?_) (lt_of_block hbk) hc.1 hcap hc.2).mono fun e w' ⟨he, hw⟩ => ⟨_, he, fin _ hw⟩
      unfold World.cell?
      simp only [hbk, Option.isSome_none, Bool.false_eq_true, if_false]
      have hjl : j < l.length := (List.getElem?_eq_some_iff.1 hj).1
      have h2 := map_at (l := l) hj
      rw [← hcs] at h2
      simp only [List.getElem?_take, List.getElem?_drop, Ty.sz, Nat.mul_one, hjl, if_true, Array.getElem?_toList] at h2
      exact h2
  · cases hy

end Vg

/- VG, part 68: loops that copy. -/
namespace Vg
open Go

theorem beq_dec (a b : Int) : (a == b) = decide (a = b) := rfl
theorem bne_dec (a b : Int) : (a != b) = !decide (a = b) := rfl

theorem tbf : (true == false) = false := rfl
theorem fbt : (false == true) = false := rfl

theorem take_getD {α : Type} {l : List α} {i : Nat} (d : α) (h : i < l.length) : l.take (i + 1) = l.take i ++ [l.getD i d] := by
  rw [List.take_succ_eq_append_getElem h, List.getD_eq_getElem?_getD, List.getElem?_eq_getElem h]; rfl

theorem filter_one {α : Type} (p : α → Bool) (a : α) : [a].filter p = if p a = true then [a] else [] := by
  cases h : p a <;> simp [List.filter, h]

theorem map_take {α β : Type} {f : α → β} {l : List α} {i : Nat} (d : α) (h : i < l.length) : (l.take (i + 1)).map f = (l.take i).map f ++ [f (l.getD i d)] := by
  rw [take_getD d h, List.map_append]; rfl

def cpS {α β : Type} (k : Nat) (d : α) (S : α × Unit → Option (β × Unit)) (x : List α × Unit) : Option (List β × Unit) :=
  loopN k (fun G1 (t2 : List α × List β × Int × Unit) =>
    if (decide ((t2.2.2.1 : Int) < ((List.length t2.1 : Nat) : Int))) = true then
      if (decide (0 ≤ t2.2.2.1 ∧ t2.2.2.1 < ((List.length t2.1 : Nat) : Int))) = true then
        Option.bind (S (List.getD t2.1 (Int.toNat t2.2.2.1) d, ())) fun (r3 : β × Unit) =>
        if (decide (List.length t2.2.1 + List.length ([r3.1] : List β) < 4294967296)) = true then
          G1 (t2.1, t2.2.1 ++ ([r3.1] : List β), IntKind.i64.wrap (t2.2.2.1 + (1 : Int)), ())
        else
          none
      else
        none
    else
      some (t2.2.1, ())) (x.1, ([] : List β), (0 : Int), ())

theorem cpS_ok {α β : Type} {k : Nat} {d : α} {S : α × Unit → Option (β × Unit)} (f : α → β) {l : List α} (hk : 9223372036854775808 ≤ k) (hl : l.length ≤ 1073741824) (hS : ∀ e ∈ l, S (e, ()) = some (f e, ())) : cpS k d S (l, ()) = some (l.map f, ()) := by
  unfold cpS
  refine loop_run (fun i => (l, (l.take i).map f, (i : Int), ())) l.length (fun G i hi => ?_) (fun G => ?_) k 0 (by omega) (by omega)
  · simp only [lt_nat, in_nat hi, hi, decide_true, if_true, Int.toNat_natCast]
    rw [hS _ (getD_mem hi), Option.bind_some, if_pos (by simp; omega), wrapS (by omega), map_take d hi]
  · simp

def cpR {α β : Type} (k : Nat) (d : α) (S : α × Unit → Option (β × Unit)) (x : List α × Unit) : Option (List β × Unit) :=
  loopN k (fun G1 (t2 : List β × List α × Int × Int × Unit) =>
    if (decide ((t2.2.2.2.1 : Int) < t2.2.2.1)) = true then
      if (decide (0 ≤ t2.2.2.2.1 ∧ t2.2.2.2.1 < ((List.length t2.2.1 : Nat) : Int))) = true then
        Option.bind (S (List.getD t2.2.1 (Int.toNat t2.2.2.2.1) d, ())) fun (r3 : β × Unit) =>
        if (decide (List.length t2.1 + List.length ([r3.1] : List β) < 4294967296)) = true then
          G1 (t2.1 ++ ([r3.1] : List β), t2.2.1, t2.2.2.1, IntKind.i64.wrap (t2.2.2.2.1 + (1 : Int)), ())
        else
          none
      else
        none
    else
      some (t2.1, ())) (([] : List β), x.1, ((List.length x.1 : Nat) : Int), (0 : Int), ())

theorem cpR_ok {α β : Type} {k : Nat} {d : α} {S : α × Unit → Option (β × Unit)} (f : α → β) {l : List α} (hk : 9223372036854775808 ≤ k) (hl : l.length ≤ 1073741824) (hS : ∀ e ∈ l, S (e, ()) = some (f e, ())) : cpR k d S (l, ()) = some (l.map f, ()) := by
  unfold cpR
  refine loop_run (fun i => ((l.take i).map f, l, (l.length : Int), (i : Int), ())) l.length (fun G i hi => ?_) (fun G => ?_) k 0 (by omega) (by omega)
  · simp only [lt_nat, in_nat hi, hi, decide_true, if_true, Int.toNat_natCast]
    rw [hS _ (getD_mem hi), Option.bind_some, if_pos (by simp; omega), wrapS (by omega), map_take d hi]
  · simp

theorem cpS_id {α : Type} {k : Nat} {d : α} {S : α × Unit → Option (α × Unit)} {l : List α} (hk : 9223372036854775808 ≤ k) (hl : l.length ≤ 1073741824) (hS : ∀ e ∈ l, S (e, ()) = some (e, ())) : cpS k d S (l, ()) = some (l, ()) := by
  have := cpS_ok (d := d) (fun e => e) hk hl hS
  rwa [List.map_id'] at this

theorem cpR_id {α : Type} {k : Nat} {d : α} {S : α × Unit → Option (α × Unit)} {l : List α} (hk : 9223372036854775808 ≤ k) (hl : l.length ≤ 1073741824) (hS : ∀ e ∈ l, S (e, ()) = some (e, ())) : cpR k d S (l, ()) = some (l, ()) := by
  have := cpR_ok (d := d) (fun e => e) hk hl hS
  rwa [List.map_id'] at this

theorem tot_filter {e : Ty} (p : e.den → Bool) : ∀ (l : List e.den), tot (.sl e) (l.filter p) ≤ tot (.sl e) l
  | [] => Nat.le_refl _
  | x :: l => by
    have := tot_filter p l
    by_cases h : p x = true
    · rw [List.filter_cons_of_pos h]; simp only [tot, List.length_cons, List.map_cons, List.sum_cons] at this ⊢; omega
    · rw [List.filter_cons_of_neg h]; simp only [tot, List.length_cons, List.map_cons, List.sum_cons] at this ⊢; omega

theorem tot_app {e : Ty} (l m : List e.den) : tot (.sl e) (l ++ m) = tot (.sl e) l + tot (.sl e) m := by
  simp only [tot, List.length_append, List.map_append, List.sum_append]; omega

theorem tot_cons {e : Ty} (x : e.den) (l : List e.den) : tot (.sl e) (x :: l) = 1 + tot e x + tot (.sl e) l := by
  simp only [tot, List.length_cons, List.map_cons, List.sum_cons]; omega

theorem tot_nil {e : Ty} : tot (.sl e) ([] : List e.den) = 0 := by simp [tot]

theorem tot_set {e : Ty} : ∀ (l : List e.den) (i : Nat) (x : e.den), i < l.length → tot (.sl e) (l.set i x) + tot e (l.getD i e.dflt) = tot (.sl e) l + tot e x
  | [], i, x, h => by simp at h
  | y :: l, 0, x, h => by rw [List.set_cons_zero, tot_cons, tot_cons]; simp; omega
  | y :: l, i + 1, x, h => by
    have := tot_set l i x (by simpa using h)
    rw [List.set_cons_succ, tot_cons, tot_cons, List.getD_cons_succ]
    omega

theorem tot_take {e : Ty} (l : List e.den) (i : Nat) : tot (.sl e) (l.take i) + tot (.sl e) (l.drop i) = tot (.sl e) l := by
  rw [← tot_app, List.take_append_drop]

/-- The first place of which p holds. -/
def idxB (n : Nat) (p : Nat → Bool) : Option Nat := (List.range n).find? p

def posI : Option Nat → Int
  | some i => (i : Int)
  | none => -1

theorem idxB_some {n : Nat} {p : Nat → Bool} {i : Nat} : idxB n p = some i ↔ i < n ∧ p i = true ∧ ∀ j, j < i → p j = false := by
  unfold idxB
  rw [List.find?_range_eq_some]
  constructor
  · rintro ⟨h1, h2, h3⟩
    exact ⟨List.mem_range.1 h2, h1, fun j hj => by simpa using h3 j hj⟩
  · rintro ⟨h1, h2, h3⟩
    exact ⟨h2, List.mem_range.2 h1, fun j hj => by simpa using h3 j hj⟩

theorem idxB_none {n : Nat} {p : Nat → Bool} : idxB n p = none ↔ ∀ i, i < n → p i = false := by
  unfold idxB
  rw [List.find?_range_eq_none]
  constructor
  · intro h i hi; simpa using h i hi
  · intro h i hi; simpa using h i hi

theorem idxB_congr {n : Nat} {p q : Nat → Bool} (h : ∀ i, i < n → p i = q i) : idxB n p = idxB n q := by
  cases hq : idxB n q with
  | none => rw [idxB_none] at hq ⊢; exact fun i hi => (h i hi).trans (hq i hi)
  | some i =>
    rw [idxB_some] at hq ⊢
    exact ⟨hq.1, (h i hq.1).trans hq.2.1, fun j hj => (h j (by omega)).trans (hq.2.2 j hj)⟩

theorem posI_neg {o : Option Nat} : posI o < 0 ↔ o = none := by
  cases o with
  | none => simp [posI]
  | some i => simp [posI]

/-- A loop that ends at the first place of which p holds. -/
theorem loop_find {σ ρ : Type} {f : (σ → Option ρ) → σ → Option ρ} (st : Nat → σ) (p : Nat → Bool) (n : Nat) {e : Option ρ} (hit : Nat → Option ρ)
    (hstep : ∀ G i, i < n → f G (st i) = if p i = true then hit i else G (st (i + 1))) (hend : ∀ G, f G (st n) = e) (k : Nat) (hk : n < k) :
    loopN k f (st 0) = match idxB n p with | some i => hit i | none => e := by
  have key : ∀ (k a : Nat), a ≤ n → n - a < k → (∀ j, j < a → p j = false) → loopN k f (st a) = match idxB n p with | some i => hit i | none => e := by
    intro k
    induction k with
    | zero => intro a _ h; omega
    | succ k ih =>
      intro a ha h hp
      show f (loopN k f) (st a) = _
      by_cases hn : a = n
      · subst hn
        rw [hend, (idxB_none (n := a) (p := p)).2 hp]
      · rw [hstep _ a (by omega)]
        cases hpa : p a with
        | true => rw [if_pos rfl, (idxB_some (i := a)).2 ⟨by omega, hpa, hp⟩]
        | false =>
          rw [if_neg (by simp), ih (a + 1) (by omega) (by omega) (fun j hj => by
            rcases Nat.lt_or_ge j a with h | h
            · exact hp j h
            · obtain rfl : j = a := by omega
              exact hpa)]
  exact key k 0 (by omega) (by omega) (by omega)

end Vg

/- VG, part 71: alarms put in order by their labels. -/
namespace Vg
open Go

def lessB (a b : ByteArray) : Bool := Op.bytesLess a.toList b.toList

/-- Labels, place by place. -/
def setLess : List (ByteArray × ByteArray) → List (ByteArray × ByteArray) → Bool
  | [], b => !b.isEmpty
  | _ :: _, [] => false
  | a :: l, b :: m => if a.1.toList == b.1.toList then (if a.2.toList == b.2.toList then setLess l m else lessB a.2 b.2) else lessB a.1 b.1

/-- Behind all that it is not less than: from the end on. -/
def insRev {α : Type} (lt : α → α → Bool) (x : α) : List α → List α
  | [] => [x]
  | y :: r => if lt x y = true then y :: insRev lt x r else x :: y :: r

def sortBy {α : Type} (lt : α → α → Bool) (l : List α) : List α := (l.foldl (fun r x => insRev lt x r) []).reverse

abbrev lessA (a b : List (ByteArray × ByteArray) × Int × Int × ByteArray) : Bool := setLess a.1 b.1
def sortL (l : List (List (ByteArray × ByteArray) × Int × Int × ByteArray)) : List (List (ByteArray × ByteArray) × Int × Int × ByteArray) := sortBy lessA l

end Vg

/- VG, part 54: sort.SliceStable at fewer than 20 elements of several cells: the insertion sort. -/

namespace Go.Proofs
open Go.Shelf Go.RowKit Go.Lib Go.Sort
variable {P : Program} {ρ : Ren} {α : Type} [Inhabited α]

set_option maxHeartbeats 1600000 in
set_option maxRecDepth 100000 in
theorem vgStable_few (L : LaysGt.n15 P ρ) {enc : α → List Value} {k : Nat} (hk : ∀ x, (enc x).length = k) (lt : α → α → Bool) {g : Nat} {lb : Array Value} {sf : Nat} {sb : Array Value} {blk off : Nat} {d : Array α} {W : World}
    (eg : ∀ args w, (callFunc g args).run P w = .ok (.enter g args) w) (hless : LessReadsK P g lb enc k lt blk off d.size W) (hswap : SwapSwapsK P sf sb enc k blk off d.size)
    (hH : HoldsK enc k W blk off d) (hblk : blk < W.heap.size) (h20 : d.size < 20) :
    Calls P (ρ.f 15) #[.agg #[.func (.func g) #[] lb, .func (.func sf) #[] sb], .int .i64 d.size] W fun e w' => e = .returned (.tuple #[]) ∧ ∃ n os, w' = sortWorldK enc k W blk off n (Sort.insertionSort lt d 0 d.size) os := by
  have mixed := L.mixed; have t0 := L.t0; have a0 := L.a0; have z0 := L.z0; have v0 := L.v0; have t3 := L.t3; have a3 := L.a3; have z3 := L.z3; have v3 := L.v3; have t4 := L.t4; have a4 := L.a4; have z4 := L.z4; have v4 := L.v4; have t26 := L.t26; have a26 := L.a26; have z26 := L.z26; have v26 := L.v26; have t38 := L.t38; have a38 := L.a38; have z38 := L.z38; have v38 := L.v38; have t42 := L.t42; have a42 := L.a42; have z42 := L.z42; have v42 := L.v42; have t47 := L.t47; have a47 := L.a47; have z47 := L.z47; have v47 := L.v47
  have u42 := run_underlying L.t42
  have e29 : ∀ args w, (callFunc (ρ.f 29) args).run P w = .ok (.enter (ρ.f 29) args) w := enters_of L.f29 (by kernel_rfl) rfl
  have LI : LaysGg.n26 P ρ.viaGt := ({ L with } : LaysGt.n29 P ρ).elder
  have hS := (SWK.start hH).alloc (.cells #[.func (.func g) #[] lb, .func (.func sf) #[] sb] (ρ.t 42))
  have hc : Calls P (ρ.f 29) #[.agg #[.func (.func g) #[] lb, .func (.func sf) #[] sb], .int .i64 (0 : Nat), .int .i64 d.size] (W.alloc (.cells #[.func (.func g) #[] lb, .func (.func sf) #[] sb] (ρ.t 42))) fun e w' => e = .returned (.tuple #[]) ∧ ∃ n os, w' = sortWorldK enc k (W.alloc (.cells #[.func (.func g) #[] lb, .func (.func sf) #[] sb] (ρ.t 42))) blk off n (Sort.insertionSort lt d 0 d.size) os :=
    Any.insertionSort_func_cells_w LI enc k hk lt g lb sf sb blk off 0 d.size d _ eg (hS.lessReads hless hblk rfl) hswap (hS.holds hblk hH rfl) (hS.lt hblk) (Nat.zero_le _) (Nat.le_refl _) (by omega)
  clear hless hswap hH hS
  go_enter L.f15, BodyGt.n15_ntmps ρ
  go_wp2
  refine wp_loop_rounds 1 ?_
  rw [rounds_succ]
  go_wp2_with (go_at_fn (ρ.f 29); refine hc.mono ?_; rintro e w1 ⟨rfl, n, os, rfl⟩)
  refine wp_loop_rounds 1 ?_
  rw [rounds_succ]
  go_wp2
  all_goals first | (exfalso; omega) | (go_end0; exact ⟨rfl, n, _, by unfold sortWorldK; rw [alloc_eq_grow, ahead_grow, putRowK_grow enc k (Sort.ahead W n) _ blk off _ hblk, grow_grow]⟩)

theorem vgSliceStable_few (L : LaysGt.n8 P ρ) {t e : TypeId} {i ie : TypeInfo} (hi : P.info? t = some i) (hd : i.desc = .slice e) (hpk : P.packed t = false) (hie : P.info? e = some ie) {ke : Nat} (hke : ∀ w, (Extern.Rtype.kind e).run P w = .ok ke w)
    {enc : α → List Value} {k : Nat} (hk : ∀ x, (enc x).length = k) (hs1 : ie.size = k) (hagg : ∀ w, (isAgg e).run P w = .ok true w) (h1 : ∀ x, ∀ v ∈ enc x, v.oneCell' = true) (lt : α → α → Bool) {g : Nat} {lb : Array Value}
    (eg : ∀ args w, (callFunc g args).run P w = .ok (.enter g args) w) {blk off c : Nat} {d : Array α} (h2 : 2 ≤ d.size) (h20 : d.size < 20)
    {f : Nat} (hf : P.funcs.findIdx? (·.name == "internal/reflectlite" ++ ".Swapper$" ++ toString (swapperK d.size ie ke)) = some f)
    (gS : Bool) (hx : ∀ args W, (callFunc f args).run P W = ((Extern.ReflectliteSwapper.swap gS args).run P W).andThen fun v w' => .ok (.value v) w')
    {w : World} (hless : LessReadsK P g lb enc k lt blk off d.size w) (hH : HoldsK enc k w blk off d) (hblk : blk < w.heap.size) :
    Calls P (ρ.f 8) #[.iface t (.slice (some ⟨blk, off, none⟩) d.size c), .func (.func g) #[] lb] w fun e w' =>
      e = .returned (.tuple #[]) ∧ ∃ n os, w' = grow (putRowK enc k (Sort.ahead w n) blk off (Sort.insertionSort lt d 0 d.size)) os := by
  refine Any.sort_SliceStable_of_stable L t e i ie hi hd hpk hie ke hke _ d.size c (by omega) f hf (.func g) #[] lb w _ ?_
  have hB : sliceBound P e ie ke (some ⟨blk, off, none⟩) d.size c = #[.slice (some ⟨blk, off, none⟩) d.size c, typeHandle P e] := by
    unfold sliceBound; rw [if_neg (swapperK_gt _ _ _ h2)]
  obtain ⟨os0, hW⟩ : ∃ os0, stableWorld P ρ t (some ⟨blk, off, none⟩) d.size c w = grow w os0 :=
    ⟨_, by unfold stableWorld; rw [alloc_eq_grow, alloc_eq_grow, grow_grow]⟩
  rw [hB, hW]
  refine (vgStable_few (P := P) (ρ := ρ) { L with } hk lt (d := d) eg (hless.grow hblk os0)
    (swapSwapsK_of_literal gS f hx e ie hie enc k hk hs1 hagg h1 blk off d.size c) (holdsK_grow enc k w _ blk off d hblk hH) (by rw [size_grow]; omega) h20).mono ?_
  rintro e w' ⟨rfl, n, os, rfl⟩
  exact ⟨rfl, n, _, by unfold sortWorldK; rw [ahead_grow, putRowK_grow enc k (Sort.ahead w n) _ blk off _ hblk, grow_grow]⟩

/-- What is asked of elements: labels that lie elsewhere. -/
def VgLabAt {α : Type} (enc : α → List Value) (lab : α → List (ByteArray × ByteArray)) (blk : Nat) (w : World) : Prop :=
  ∀ x : α, ∃ p c, (enc x)[0]? = some (.slice p (lab x).length c) ∧ (lab x).length < 4611686018427387904 ∧
    ∀ i, i < (lab x).length → ∃ bk o, p = some ⟨bk, o, none⟩ ∧ bk ≠ blk ∧ bk < w.heap.size ∧ w.cell? ⟨bk, o + i * 2, none⟩ = some (.string ((lab x).getD i (ByteArray.empty, ByteArray.empty)).1) ∧
      w.cell? ⟨bk, o + i * 2 + 1, none⟩ = some (.string ((lab x).getD i (ByteArray.empty, ByteArray.empty)).2)

end Go.Proofs

/- VG, part 72: a row put in order in place: what a function leaves behind that sorts what it is handed. -/
namespace Vg
open Go Go.RowKit

section
variable {α : Type}

theorem insRev_perm (lt : α → α → Bool) (x : α) : ∀ r : List α, (insRev lt x r).Perm (x :: r)
  | [] => List.Perm.refl _
  | y :: r => by
    unfold insRev
    split
    · exact ((insRev_perm lt x r).cons y).trans (List.Perm.swap x y r)
    · exact List.Perm.refl _

theorem sortFold_perm (lt : α → α → Bool) : ∀ (l r : List α), (l.foldl (fun r x => insRev lt x r) r).Perm (l ++ r)
  | [], r => List.Perm.refl _
  | x :: l, r => by
    rw [List.foldl_cons]
    exact (sortFold_perm lt l _).trans ((List.Perm.append_left l (insRev_perm lt x r)).trans (List.perm_middle))

theorem sortBy_perm (lt : α → α → Bool) (l : List α) : (sortBy lt l).Perm l := by
  unfold sortBy
  refine (List.reverse_perm _).trans ?_
  have := sortFold_perm lt l []
  rwa [List.append_nil] at this

theorem insRev_map {β : Type} {lt : α → α → Bool} {lt' : β → β → Bool} (f : α → β) (h : ∀ x y, lt x y = lt' (f x) (f y)) (x : α) : ∀ r : List α, (insRev lt x r).map f = insRev lt' (f x) (r.map f)
  | [] => rfl
  | y :: r => by
    simp only [insRev, List.map_cons, h]
    split <;> simp [insRev_map f h x r]

theorem sortFold_map {β : Type} {lt : α → α → Bool} {lt' : β → β → Bool} (f : α → β) (h : ∀ x y, lt x y = lt' (f x) (f y)) : ∀ (l r : List α), (l.foldl (fun r x => insRev lt x r) r).map f = (l.map f).foldl (fun r x => insRev lt' x r) (r.map f)
  | [], r => rfl
  | x :: l, r => by
    rw [List.foldl_cons, List.map_cons, List.foldl_cons, sortFold_map f h l, insRev_map f h]

theorem sortBy_map {β : Type} {lt : α → α → Bool} {lt' : β → β → Bool} (f : α → β) (h : ∀ x y, lt x y = lt' (f x) (f y)) (l : List α) : (sortBy lt l).map f = sortBy lt' (l.map f) := by
  unfold sortBy
  rw [List.map_reverse, sortFold_map f h]
  rfl

variable [Inhabited α]

theorem ins_inner (lt : α → α → Bool) : ∀ (j : Nat) (p : List α) (x : α) (r : List α), p.length = j → Go.Sort.insInner lt 0 j (p ++ x :: r).toArray = ((insRev lt x p.reverse).reverse ++ r).toArray
  | 0, p, x, r, h => by
    have : p = [] := List.length_eq_zero_iff.1 h
    subst this
    rfl
  | j + 1, p, x, r, h => by
    obtain ⟨q, y, rfl⟩ : ∃ q y, p = q ++ [y] := ⟨p.dropLast, p.getLast (by intro e; rw [e] at h; cases h), (List.dropLast_concat_getLast _).symm⟩
    have hq : q.length = j := by simpa using h
    have e1 : (q ++ [y] ++ x :: r).toArray[j + 1]! = x := by simp [← hq]
    have e0 : (q ++ [y] ++ x :: r).toArray[j]! = y := by simp [← hq]
    unfold Go.Sort.insInner
    rw [e1, e0]
    by_cases hl : lt x y = true
    · rw [if_pos (by simp [hl])]
      have e2 : Go.Sort.swp (q ++ [y] ++ x :: r).toArray (j + 1) j = (q ++ x :: (y :: r)).toArray := by
        unfold Go.Sort.swp
        rw [e1, e0]
        apply Array.ext'
        simp [← hq]
      rw [e2, ins_inner lt j q x (y :: r) hq, List.reverse_append, List.reverse_singleton, List.singleton_append]
      simp [insRev, hl]
    · rw [if_neg (by simp [hl]), List.reverse_append, List.reverse_singleton, List.singleton_append]
      simp [insRev, hl]

theorem ins_outer (lt : α → α → Bool) (l : List α) : ∀ (m i : Nat), i + m = l.length → Go.Sort.insOuter lt 0 l.length i (sortBy lt (l.take i) ++ l.drop i).toArray = (sortBy lt l).toArray
  | 0, i, h => by
    unfold Go.Sort.insOuter
    rw [if_neg (by omega), List.drop_eq_nil_of_le (by omega), List.take_of_length_le (by omega), List.append_nil]
  | m + 1, i, h => by
    have hi : i < l.length := by omega
    unfold Go.Sort.insOuter
    rw [if_pos hi, List.drop_eq_getElem_cons hi]
    have hlen : (sortBy lt (l.take i)).length = i := by rw [(sortBy_perm lt (l.take i)).length_eq, List.length_take]; omega
    rw [ins_inner lt i _ _ _ hlen]
    have : (insRev lt l[i] (sortBy lt (l.take i)).reverse).reverse = sortBy lt (l.take (i + 1)) := by
      unfold sortBy
      rw [List.reverse_reverse, List.take_succ_eq_append_getElem hi, List.foldl_append]
      rfl
    rw [this]
    exact ins_outer lt l m (i + 1) (by omega)

theorem ins_sort (lt : α → α → Bool) (l : List α) (h : 1 ≤ l.length) : Go.Sort.insertionSort lt l.toArray 0 l.toArray.size = (sortBy lt l).toArray := by
  unfold Go.Sort.insertionSort
  have := ins_outer lt l (l.length - 1) 1 (by omega)
  have e : sortBy lt (l.take 1) ++ l.drop 1 = l := by
    cases l with
    | nil => cases h
    | cons x l => rfl
  rw [e] at this
  simpa using this

theorem flat_at {enc : α → List Value} {k : Nat} (hk : ∀ x, (enc x).length = k) (h0 : 0 < k) : ∀ (L : List α) (t : Nat), t < L.length * k → (L.flatMap enc)[t]? = some ((enc L[t / k]!)[t % k]!)
  | [], t, h => by simp at h
  | x :: L, t, h => by
    rw [List.flatMap_cons]
    by_cases ht : t < k
    · rw [List.getElem?_append_left (by rw [hk]; exact ht), Nat.div_eq_of_lt ht, Nat.mod_eq_of_lt ht]
      have : t < (enc x).length := by rw [hk]; exact ht
      simp [this]
    · rw [List.getElem?_append_right (by rw [hk]; omega), hk, flat_at hk h0 L (t - k) (by simp only [List.length_cons, Nat.add_mul, Nat.one_mul] at h; omega)]
      have e1 : t / k = (t - k) / k + 1 := by rw [Nat.div_eq_sub_div h0 (by omega)]
      have e2 : t % k = (t - k) % k := by rw [Nat.mod_eq_sub_mod (by omega)]
      rw [e1, e2]
      rfl

theorem flatK_list {enc : α → List Value} {k : Nat} (hk : ∀ x, (enc x).length = k) (h0 : 0 < k) (L : List α) : (Go.Sort.flatK enc k L.toArray).toList = L.flatMap enc := by
  have hl : (L.flatMap enc).length = L.length * k := by
    induction L with
    | nil => simp
    | cons x L ih => rw [List.flatMap_cons, List.length_append, ih, hk, List.length_cons, Nat.add_mul, Nat.one_mul, Nat.add_comm]
  apply List.ext_getElem?
  intro t
  by_cases ht : t < L.length * k
  · rw [flat_at hk h0 L t ht]
    have h2 : t < (Go.Sort.flatK enc k L.toArray).size := by simpa using ht
    have h3 := Go.Sort.get_flatK enc k L.toArray t (by simpa using ht)
    rw [getElem!_pos _ t h2] at h3
    rw [Array.getElem?_toList, Array.getElem?_eq_getElem h2, h3]
    simp
  · rw [List.getElem?_eq_none (by simp; omega), List.getElem?_eq_none (by rw [hl]; omega)]
end

/-- Elements, their cells, their blocks. -/
theorem repL_parts {β : Type} {R : β → List Value → List Nat → Prop} : ∀ {l : List β} {cs : List Value} {B : List Nat}, RepL R l cs B →
    ∃ L : List (β × List Value × List Nat), (∀ x ∈ L, R x.1 x.2.1 x.2.2) ∧ l = L.map (·.1) ∧ cs = L.flatMap (·.2.1) ∧ B = L.flatMap (·.2.2)
  | [], _, _, h => ⟨[], by simp, rfl, h.1, h.2⟩
  | x :: l, cs, B, h => by
    obtain ⟨c1, c2, B1, B2, rfl, rfl, h1, h2⟩ := h
    obtain ⟨L, a1, rfl, rfl, rfl⟩ := repL_parts h2
    exact ⟨(x, c1, B1) :: L, (fun y hy => by rcases List.mem_cons.1 hy with rfl | hy; exact h1; exact a1 y hy), rfl, rfl, rfl⟩

theorem parts_repL {β : Type} {R : β → List Value → List Nat → Prop} : ∀ (L : List (β × List Value × List Nat)), (∀ x ∈ L, R x.1 x.2.1 x.2.2) → RepL R (L.map (·.1)) (L.flatMap (·.2.1)) (L.flatMap (·.2.2))
  | [], _ => ⟨rfl, rfl⟩
  | x :: L, h => ⟨x.2.1, _, x.2.2, _, rfl, rfl, h x (by simp), parts_repL L (fun y hy => h y (by simp [hy]))⟩

theorem repL_lab {w : World} : ∀ {l : List (ByteArray × ByteArray)} {cs : List Value} {B : List Nat}, RepL (Rep w (.pair .str .str)) l cs B → B = [] ∧ ∀ i, i < l.length → cs[i * 2]? = some (.string (l.getD i (ByteArray.empty, ByteArray.empty)).1) ∧ cs[i * 2 + 1]? = some (.string (l.getD i (ByteArray.empty, ByteArray.empty)).2)
  | [], _, _, h => ⟨h.2, fun i hi => by simp at hi⟩
  | x :: l, cs, B, h => by
    obtain ⟨c1, c2, B1, B2, rfl, rfl, ⟨d1, d2, C1, C2, rfl, rfl, ⟨rfl, rfl⟩, ⟨rfl, rfl⟩⟩, h2⟩ := h
    obtain ⟨e, q⟩ := repL_lab h2
    refine ⟨by rw [e]; rfl, fun i hi => ?_⟩
    cases i with
    | zero => exact ⟨rfl, rfl⟩
    | succ i =>
      obtain ⟨q1, q2⟩ := q i (by simpa using hi)
      have e1 : (i + 1) * 2 = i * 2 + 1 + 1 := by omega
      rw [e1]
      simp only [List.singleton_append, List.cons_append, List.nil_append, List.getElem?_cons_succ, List.getD_cons_succ]
      exact ⟨q1, q2⟩

/-- A row of own, put in another order in place: what is left behind. -/
theorem post_sorted {e : Ty} {F : TupD [.sl e] → Option (TupD [.sl e])} {w w' : World} {G0 : Gh} {v : Value} {l l' : List e.den}
    (hlot : Lot w G0 (env0 [.val (.sl e) .own] (l, ()) 3).1 [v] 4) {B B' : List Nat} (hB : RepS w e.sz (Rep w e) l v B) (hBo : ∀ b Bs, B = b :: Bs → G0.col b = 3 ∧ b ∉ Bs ∧ (∀ x ∈ Bs, G0.col x = 3) ∧ Bs.Nodup)
    (hB' : RepS w' e.sz (Rep w' e) l' v B') (hp : ∀ b Bs, B' = b :: Bs → ∃ Bs0, B = b :: Bs0 ∧ Bs.Perm Bs0)
    (hsame : ∀ b, b < w.heap.size → (∀ Bs, B ≠ b :: Bs) → w'.heap[b]? = w.heap[b]?) (hrow : ∀ b Bs, B = b :: Bs → ∃ c el, w'.heap[b]? = some (.cells c el (0, 0)))
    (hsize : w.heap.size ≤ w'.heap.size) (hos : w'.os = w.os) (htape : w'.tape = w.tape) (hout : w'.output = w.output) :
    ∃ G' vs nt, Post ⟨[.val (.sl e) .own], [.val (.sl e) .own], F, []⟩ w G0 [v] (l', ()) v w' G' vs nt := by
  refine ⟨⟨fun b => if G0.col b = 3 then 4 else G0.col b, fun t => if t = 4 then v else G0.hdr t, fun _ => false⟩, [v], 5, ?_⟩
  exact {
    kept := fun q hq => by cases hq
    val := rfl
    len := rfl
    res := fun i => by
      cases i with
      | zero =>
        show SOk w' _ (.d ⟨.sl e, l', .sl (.row 4 [4] true)⟩) v
        refine ⟨[v], rfl, v, rfl, by omega, rfl, B', hB', fun b Bs he => ?_⟩
        obtain ⟨Bs0, e0, hperm⟩ := hp b Bs he
        obtain ⟨q1, q2, q3, q4⟩ := hBo b Bs0 e0
        refine ⟨by simp [q1], fun hm => q2 (hperm.mem_iff.1 hm), fun x hx => ?_, fun _ => hperm.nodup_iff.2 q4⟩
        have := q3 x (hperm.mem_iff.1 hx)
        simp [this]
      | succ i => trivial
    ios := fun t i x h => by cases h
    frame := fun b hb hc => by
      refine ⟨by simp only; rw [if_neg (by omega)], hsame b hb (fun Bs he => ?_)⟩
      have := (hBo b Bs he).1
      omega
    one := fun b h => by
      simp only at h
      split at h
      · omega
      · exact ⟨(hlot.colU b (by omega)).2, h⟩
    size := hsize
    os := hos
    tape := htape
    output := hout
    lt := fun b h => by
      simp only at h
      refine Nat.lt_of_lt_of_le (hlot.colU b ?_).2 hsize
      split at h <;> omega
    fresh := fun b h => by
      simp only at h
      have h3 : 3 ≤ G0.col b := by split at h <;> omega
      obtain ⟨c, el, hc⟩ := hlot.fresh b h3
      by_cases hb : ∃ Bs, B = b :: Bs
      · obtain ⟨Bs, he⟩ := hb
        exact hrow b Bs he
      · rw [hsame b (hlot.colU b (by omega)).2 (fun Bs he => hb ⟨Bs, he⟩)]
        exact ⟨c, el, hc⟩ }

end Vg

/- VG, part 73: a function that puts a row of alarms in order in place: its contract. -/
namespace Vg
open Go Go.RowKit

abbrev tAl : Ty := .pair (.sl (.pair .str .str)) (.pair (.int .i64) (.pair (.int .i64) .str))

def bylabF (x : List tAl.den × Unit) : Option (List tAl.den × Unit) :=
  if (decide (x.1.length < 1152921504606846976) && x.1.all fun a => decide (a.1.length < 4611686018427387904)) = true then some (sortL x.1, ()) else none

theorem sortBy_short {α : Type} (lt : α → α → Bool) : ∀ {l : List α}, l.length ≤ 1 → sortBy lt l = l
  | [], _ => rfl
  | [x], _ => rfl
  | _ :: _ :: _, h => by simp at h

theorem sub_list {α : Type} {p : α → Prop} : ∀ (L : List α), (∀ x ∈ L, p x) → ∃ LA : List {x // p x}, LA.map Subtype.val = L
  | [], _ => ⟨[], rfl⟩
  | x :: L, h => by
    obtain ⟨LA, e⟩ := sub_list L (fun y hy => h y (by simp [hy]))
    exact ⟨⟨x, h x (by simp)⟩ :: LA, by rw [List.map_cons, e]⟩

theorem put_list {F c : Array Value} {off : Nat} (h : off + F.size ≤ c.size) : ((Go.Sort.putCells id off F c).toList.drop off).take F.size = F.toList := by
  apply List.ext_getElem?
  intro t
  rw [List.getElem?_take]
  split
  · rename_i ht
    rw [List.getElem?_drop, Array.getElem?_toList]
    unfold Go.Sort.putCells
    rw [Array.getElem?_mapIdx, Array.getElem?_eq_getElem (show off + t < c.size by omega)]
    rw [Option.map_some, if_pos ⟨by omega, by omega⟩, Array.getElem?_toList, Array.getElem?_eq_getElem ht, show off + t - off = t by omega, getElem!_pos F t ht]
    rfl
  · rw [List.getElem?_eq_none]
    simp
    omega

theorem put_size (F c : Array Value) (off : Nat) : (Go.Sort.putCells id off F c).size = c.size := by simp [Go.Sort.putCells]

theorem al_one {w : World} {x : tAl.den} {cs : List Value} {B : List Nat} (h : Rep w tAl x cs B) : (∀ v ∈ cs, v.oneCell' = true) ∧
    ∃ v B1, cs[0]? = some v ∧ (∀ y ∈ B1, y ∈ B) ∧ RepS w 2 (Rep w (.pair .str .str)) x.1 v B1 := by
  obtain ⟨c1, c2, B1, B2, rfl, rfl, ⟨v, rfl, hv⟩, ⟨d1, d2, C1, C2, rfl, rfl, ⟨rfl, rfl⟩, ⟨f1, f2, D1, D2, rfl, rfl, ⟨rfl, rfl⟩, ⟨rfl, rfl⟩⟩⟩⟩ := h
  refine ⟨fun u hu => ?_, v, B1, rfl, fun y hy => List.mem_append_left _ hy, hv⟩
  simp only [List.singleton_append, List.mem_cons, List.not_mem_nil, or_false] at hu
  rcases hu with rfl | rfl | rfl | rfl
  · exact hv.one
  · rfl
  · rfl
  · rfl

theorem meets_sorts {P : Program} {f : FuncId} {fn : Func} (hf : P.funcs[f]? = some fn) (hname : (fn.name == "runtime.NumGoroutine") = false) (hb : fn.body.isSome = true)
    (tiny : ∀ (p : Option Addr) (n c : Nat), n ≤ 1 → ∀ w : World, Calls P f #[.slice p n c] w fun e w' => e = .returned (.slice p n c) ∧ ∃ os, w' = Go.Sort.grow w os)
    (few : ∀ {α : Type} [Inhabited α] (enc : α → List Value) (_ : ∀ x, (enc x).length = 4) (_ : ∀ x, ∀ v ∈ enc x, v.oneCell' = true) (lab : α → List (ByteArray × ByteArray)) (blk off c : Nat) (d : Array α) (w : World)
      (_ : 2 ≤ d.size) (_ : d.size < 1152921504606846976) (_ : Go.Sort.HoldsK enc 4 w blk off d) (_ : blk < w.heap.size) (_ : Go.Proofs.VgLabAt enc lab blk w),
      Calls P f #[.slice (some ⟨blk, off, none⟩) d.size c] w fun e w' =>
        e = .returned (.slice (some ⟨blk, off, none⟩) d.size c) ∧ ∃ n os, w' = Go.Sort.grow (Go.Sort.putRowK enc 4 (Go.Sort.ahead w n) blk off (Go.Sort.insertionSort (fun x y => setLess (lab x) (lab y)) d 0 d.size)) os) :
    Meets P f ⟨[.val (.sl tAl) .own], [.val (.sl tAl) .own], bylabF, []⟩ := by
  intro w G0 args x y hy hlot
  have hlen : args.length = 1 := hlot.len
  obtain ⟨v, rfl⟩ : ∃ v, args = [v] := by
    match args, hlen with
    | [a], _ => exact ⟨a, rfl⟩
  obtain ⟨l, u⟩ := x
  suffices H : ∀ (l : List tAl.den) (y : List tAl.den × Unit), bylabF (l, ()) = some y → Lot w G0 (env0 [.val (.sl tAl) .own] (l, ()) 3).1 [v] 4 →
      Upon P f [v].toArray w (fun mv w' => ∃ G' vs nt, Post ⟨[.val (.sl tAl) .own], [.val (.sl tAl) .own], bylabF, []⟩ w G0 [v] y mv w' G' vs nt) from H l y hy hlot
  clear hy hlot u y hlen l
  intro l y hy hlot
  have s0 : SOk w G0 (.d ⟨.sl tAl, l, .sl (.row 3 [3] true)⟩) v := hlot.slots 0
  obtain ⟨cs, e0, v', rfl, _, _, B, hB, hBo⟩ := s0
  have e0' : v = v' := e0
  subst e0'
  have hB : RepS w tAl.sz (Rep w tAl) l v B := hB
  have hBo' : ∀ b Bs, B = b :: Bs → G0.col b = 3 ∧ b ∉ Bs ∧ (∀ x ∈ Bs, G0.col x = 3) ∧ Bs.Nodup := fun b Bs he => by
    obtain ⟨q1, q2, q3, q4⟩ := hBo b Bs he
    exact ⟨q1, q2, fun x hx => by simpa using q3 x hx, q4 rfl⟩
  unfold bylabF at hy
  split at hy
  rotate_left
  · cases hy
  rename_i hc
  simp only [Bool.and_eq_true, decide_eq_true_eq, List.all_eq_true] at hc
  obtain ⟨h20, hll⟩ := hc
  have hy' := Option.some.inj hy
  subst hy'
  refine upon_calls hf hname hb ?_
  have hshort : l.length ≤ 1 → ∀ os, ∃ G' vs nt, Post ⟨[.val (.sl tAl) .own], [.val (.sl tAl) .own], bylabF, []⟩ w G0 [v] (sortL l, ()) v (Go.Sort.grow w os) G' vs nt := fun h1 os => by
    have hs : ∀ b, b < w.heap.size → (Go.Sort.grow w os).heap[b]? = w.heap[b]? := fun b h => by
      show (w.heap ++ os)[b]? = _
      rw [Array.getElem?_append_left h]
    have e : sortL l = l := sortBy_short _ h1
    rw [e]
    refine post_sorted (e := tAl) hlot hB hBo' (B' := B) (hB.mono (fun b hb => hs b (RepS.bounds hB b hb))) (fun b Bs he => ⟨Bs, he, List.Perm.refl _⟩) (fun b h _ => hs b h) (fun b Bs he => ?_) ?_ rfl rfl rfl
    · obtain ⟨c, el, hc⟩ := hlot.fresh b (by rw [(hBo' b Bs he).1]; exact Nat.le_refl _)
      exact ⟨c, el, by rw [hs b (lt_of_block hc)]; exact hc⟩
    · show w.heap.size ≤ (w.heap ++ os).size
      rw [Array.size_append]; omega
  by_cases h1 : l.length ≤ 1
  · obtain ⟨p, n, c, hv, hn⟩ : ∃ p n c, v = .slice p n c ∧ n ≤ 1 := by
      rcases hB with ⟨⟨ao, e⟩, _, _⟩ | ⟨b, off, cap, c, el, fz, Bs, e, _⟩
      · exact ⟨ao, 0, 0, e, by omega⟩
      · exact ⟨_, _, _, e, h1⟩
    subst hv
    refine (tiny p n c hn w).mono ?_
    rintro e w' ⟨rfl, os, rfl⟩
    exact ⟨_, rfl, hshort h1 os⟩
  have hB0 := hB
  rcases hB with ⟨_, e, _⟩ | ⟨b, off, cap, c, el, fz, Bs, rfl, hcap, hbk, hsz, rfl, hl⟩
  · exact absurd (by rw [e]; simp) h1
  obtain ⟨q1, q2, q3, q4⟩ := hBo' b Bs rfl
  have hfz : fz = (0, 0) := by
    obtain ⟨c', el', hc'⟩ := hlot.fresh b (by rw [q1]; exact Nat.le_refl _)
    rw [hbk] at hc'
    simp only [Option.some.injEq, Obj.cells.injEq] at hc'
    exact hc'.2.2
  subst hfz
  obtain ⟨L, hL, hlL, hcs, hBs⟩ := repL_parts hl
  have hbnd : ∀ x ∈ Bs, x < w.heap.size := fun x hx => RepS.bounds hB0 x (by simp [hx])
  have hLp : ∀ x ∈ L, Rep w tAl x.1 x.2.1 x.2.2 ∧ b ∉ x.2.2 ∧ x.1.1.length < 4611686018427387904 := fun x hx => by
    refine ⟨hL x hx, fun hm => q2 (by rw [hBs]; exact List.mem_flatMap.2 ⟨x, hx, hm⟩), hll x.1 ?_⟩
    rw [hlL]; exact List.mem_map.2 ⟨x, hx, rfl⟩
  obtain ⟨LA, hLA⟩ := sub_list L hLp
  have hlenL : LA.length = l.length := by rw [hlL, ← hLA]; simp
  haveI : Inhabited {x : tAl.den × List Value × List Nat // Rep w tAl x.1 x.2.1 x.2.2 ∧ b ∉ x.2.2 ∧ x.1.1.length < 4611686018427387904} := ⟨LA.head (by intro e; rw [e] at hlenL; simp at hlenL; omega)⟩
  have hk4 : ∀ x : {x : tAl.den × List Value × List Nat // Rep w tAl x.1 x.2.1 x.2.2 ∧ b ∉ x.2.2 ∧ x.1.1.length < 4611686018427387904}, x.val.2.1.length = 4 := fun x => Rep.len x.property.1
  have hflat : ∀ M : List {x : tAl.den × List Value × List Nat // Rep w tAl x.1 x.2.1 x.2.2 ∧ b ∉ x.2.2 ∧ x.1.1.length < 4611686018427387904}, (M.map Subtype.val).flatMap (fun x => x.2.1) = M.flatMap (fun x => x.val.2.1) := fun M => by
    rw [List.flatMap_map]
  have hcs2 : LA.flatMap (fun x => x.val.2.1) = (c.toList.drop off).take (l.length * 4) := by
    rw [← hflat, hLA]; exact hcs.symm
  have hH : Go.Sort.HoldsK (fun x : {x : tAl.den × List Value × List Nat // Rep w tAl x.1 x.2.1 x.2.2 ∧ b ∉ x.2.2 ∧ x.1.1.length < 4611686018427387904} => x.val.2.1) 4 w b off LA.toArray := by
    intro j hj
    refine ⟨?_, frozen_row hbk _⟩
    rw [Go.Sort.size_flatK] at hj
    have hj2 : j < LA.length * 4 := by simpa using hj
    rw [Go.Sort.get_flatK _ _ _ _ hj]
    have h2 := flat_at (enc := fun x : {x : tAl.den × List Value × List Nat // Rep w tAl x.1 x.2.1 x.2.2 ∧ b ∉ x.2.2 ∧ x.1.1.length < 4611686018427387904} => x.val.2.1) hk4 (by omega) LA j hj2
    rw [hcs2, List.getElem?_take, if_pos (by omega), List.getElem?_drop, Array.getElem?_toList] at h2
    unfold World.cell?
    simp only [hbk, Option.isSome_none, Bool.false_eq_true, if_false]
    rw [h2]
    simp
  have hlab : Go.Proofs.VgLabAt (fun x : {x : tAl.den × List Value × List Nat // Rep w tAl x.1 x.2.1 x.2.2 ∧ b ∉ x.2.2 ∧ x.1.1.length < 4611686018427387904} => x.val.2.1) (fun x => x.val.1.1) b w := by
    rintro ⟨⟨a, ac, aB⟩, ha, hbn, hal⟩
    obtain ⟨_, v1, B1, hv1, hsub, hrep⟩ := al_one ha
    rcases hrep with ⟨⟨ao, e1⟩, e2, _⟩ | ⟨b1, off1, cap1, c1, el1, fz1, Bs1, e1, hcap1, hbk1, hsz1, e2, hl1⟩
    · have e2' : a.1 = [] := e2
      refine ⟨ao, 0, ?_, hal, fun i hi => ?_⟩
      · show ac[0]? = some (.slice ao a.1.length 0)
        rw [hv1, e1, e2']; rfl
      · change i < a.1.length at hi
        rw [e2'] at hi; simp at hi
    · refine ⟨some ⟨b1, off1, none⟩, cap1, ?_, hal, fun i hi => ?_⟩
      · show ac[0]? = some (.slice (some ⟨b1, off1, none⟩) a.1.length cap1)
        rw [hv1, e1]
      · change i < a.1.length at hi
        obtain ⟨_, hq⟩ := repL_lab hl1
        obtain ⟨r1, r2⟩ := hq i hi
        refine ⟨b1, off1, rfl, fun e => hbn (hsub b (by rw [e2, e]; simp)), lt_of_block hbk1, ?_, ?_⟩
        · unfold World.cell?
          simp only [hbk1, Option.isSome_none, Bool.false_eq_true, if_false]
          rw [List.getElem?_take, if_pos (by show i * 2 < a.1.length * 2; omega), List.getElem?_drop, Array.getElem?_toList] at r1
          exact r1
        · unfold World.cell?
          simp only [hbk1, Option.isSome_none, Bool.false_eq_true, if_false]
          rw [List.getElem?_take, if_pos (by show i * 2 + 1 < a.1.length * 2; omega), List.getElem?_drop, Array.getElem?_toList] at r2
          exact r2
  have hcall := few (fun x : {x : tAl.den × List Value × List Nat // Rep w tAl x.1 x.2.1 x.2.2 ∧ b ∉ x.2.2 ∧ x.1.1.length < 4611686018427387904} => x.val.2.1) hk4 (fun x => (al_one x.property.1).1) (fun x => x.val.1.1) b off cap LA.toArray w
    (by simp; omega) (by simp; omega) hH (lt_of_block hbk) hlab
  rw [ins_sort _ LA (by omega)] at hcall
  have hsz2 : LA.toArray.size = l.length := by simpa using hlenL
  rw [hsz2] at hcall
  refine hcall.mono ?_
  rintro e w' ⟨rfl, n, os, hw⟩
  refine ⟨_, rfl, ?_⟩
  have hblk : b < w.heap.size := lt_of_block hbk
  generalize hLS : sortBy (fun x y : {x : tAl.den × List Value × List Nat // Rep w tAl x.1 x.2.1 x.2.2 ∧ b ∉ x.2.2 ∧ x.1.1.length < 4611686018427387904} => setLess x.val.1.1 y.val.1.1) LA = LS at hw
  have hperm : LS.Perm LA := by rw [← hLS]; exact sortBy_perm _ _
  have hheap : ∀ k, k < w.heap.size → k ≠ b → w'.heap[k]? = w.heap[k]? := fun k hk hne => by
    rw [hw]
    show ((w.heap.modify b _) ++ os)[k]? = _
    rw [Array.getElem?_append_left (by rw [Array.size_modify]; exact hk), Array.getElem?_modify, if_neg (fun h => hne h.symm)]
  have hrow : w'.heap[b]? = some (.cells (Go.Sort.putCells id off (Go.Sort.flatK (fun x : {x : tAl.den × List Value × List Nat // Rep w tAl x.1 x.2.1 x.2.2 ∧ b ∉ x.2.2 ∧ x.1.1.length < 4611686018427387904} => x.val.2.1) 4 LS.toArray) c) el (0, 0)) := by
    rw [hw]
    show ((w.heap.modify b _) ++ os)[b]? = _
    rw [Array.getElem?_append_left (by rw [Array.size_modify]; exact hblk), Array.getElem?_modify, if_pos rfl, hbk]
    rfl
  have hLSlen : LS.length = l.length := by rw [hperm.length_eq, hlenL]
  have hFs : (Go.Sort.flatK (fun x : {x : tAl.den × List Value × List Nat // Rep w tAl x.1 x.2.1 x.2.2 ∧ b ∉ x.2.2 ∧ x.1.1.length < 4611686018427387904} => x.val.2.1) 4 LS.toArray).size = l.length * 4 := by
    rw [Go.Sort.size_flatK]; simp [hLSlen]
  have hsz4 : off + cap * 4 ≤ c.size := hsz
  have hsortl : sortL l = (LS.map Subtype.val).map (·.1) := by
    rw [hlL, ← hLA, ← hLS, List.map_map, List.map_map]
    unfold sortL
    exact (sortBy_map (lt := fun x y : {x : tAl.den × List Value × List Nat // Rep w tAl x.1 x.2.1 x.2.2 ∧ b ∉ x.2.2 ∧ x.1.1.length < 4611686018427387904} => setLess x.val.1.1 y.val.1.1) (lt' := lessA) ((·.1) ∘ Subtype.val) (fun _ _ => rfl) LA).symm
  have hpermB : ((LS.map Subtype.val).flatMap (·.2.2)).Perm Bs := by
    rw [hBs, ← hLA]
    exact List.Perm.flatMap_right _ (hperm.map _)
  have hB' : RepS w' tAl.sz (Rep w' tAl) (sortL l) (.slice (some ⟨b, off, none⟩) l.length cap) (b :: (LS.map Subtype.val).flatMap (·.2.2)) := by
    have hll' : (sortL l).length = l.length := by rw [hsortl]; simp [hLSlen]
    refine .inr ⟨b, off, cap, _, el, (0, 0), _, by rw [hll'], by rw [hll']; exact hcap, hrow, by rw [put_size]; exact hsz, rfl, ?_⟩
    have := parts_repL (R := Rep w' tAl) (LS.map Subtype.val) (fun x hx => by
      obtain ⟨z, hz, rfl⟩ := List.mem_map.1 hx
      refine Rep.mono (fun k hk => ?_) z.property.1
      refine hheap k (Rep.bounds z.property.1 k hk) (fun e => z.property.2.1 (e ▸ hk)))
    rw [hll', hsortl]
    have e2 : ((Go.Sort.putCells id off (Go.Sort.flatK (fun x : {x : tAl.den × List Value × List Nat // Rep w tAl x.1 x.2.1 x.2.2 ∧ b ∉ x.2.2 ∧ x.1.1.length < 4611686018427387904} => x.val.2.1) 4 LS.toArray) c).toList.drop off).take (l.length * tAl.sz) = (LS.map Subtype.val).flatMap (fun x => x.2.1) := by
      have hp := put_list (F := Go.Sort.flatK (fun x : {x : tAl.den × List Value × List Nat // Rep w tAl x.1 x.2.1 x.2.2 ∧ b ∉ x.2.2 ∧ x.1.1.length < 4611686018427387904} => x.val.2.1) 4 LS.toArray) (c := c) (off := off) (by rw [hFs]; omega)
      rw [hFs] at hp
      rw [hflat, ← flatK_list hk4 (by omega) LS]
      exact hp
    rw [e2]
    exact this
  refine post_sorted (e := tAl) hlot hB0 hBo' hB' (fun b2 Bs2 he => ?_) (fun k hk hne => hheap k hk (fun e => hne Bs (by rw [e]))) (fun b2 Bs2 he => ?_) ?_ ?_ ?_ ?_
  · obtain ⟨rfl, rfl⟩ := List.cons.inj he
    exact ⟨Bs, rfl, hpermB⟩
  · obtain ⟨rfl, rfl⟩ := List.cons.inj he
    exact ⟨_, _, hrow⟩
  · rw [hw]
    show w.heap.size ≤ ((w.heap.modify b _) ++ os).size
    rw [Array.size_append, Array.size_modify]; omega
  · rw [hw]; rfl
  · rw [hw]; rfl
  · rw [hw]; rfl

end Vg

/- VG, part 75: a row of numbers put in order by what stands in another row. -/
namespace Vg
open Go Go.RowKit

abbrev tDd : Ty := .pair (.int .i64) (.pair (.int .i64) (.pair tAl (.pair (.sl (.pair .str .str)) (.pair (.int .i64) (.pair (.int .i64) (.pair (.int .i64) (.pair (.sl tAl) (.pair (.int .i64) (.pair (.int .i64) (.pair (.int .i64) (.int .i64)))))))))))
/-- The turn at which a deed took place. -/
def linOf (d : tDd.den) : Int := d.2.2.2.2.2.2.2.2.2.2.1
def ordLt (l : List tDd.den) (x y : Int) : Bool := decide (linOf (l.getD x.toNat tDd.dflt) < linOf (l.getD y.toNat tDd.dflt))

theorem dd_lin {w : World} {x : tDd.den} {cs : List Value} {B : List Nat} (h : Rep w tDd x cs B) : cs[13]? = some (.int .i64 (linOf x)) := by
  obtain ⟨_, c1, _, _, rfl, rfl, ⟨rfl, rfl⟩, h⟩ := h
  obtain ⟨_, c2, _, _, rfl, rfl, ⟨rfl, rfl⟩, h⟩ := h
  obtain ⟨ca, c3, _, _, rfl, rfl, ha, h⟩ := h
  obtain ⟨cl, c4, _, _, rfl, rfl, ⟨vl, rfl, _⟩, h⟩ := h
  obtain ⟨_, c5, _, _, rfl, rfl, ⟨rfl, rfl⟩, h⟩ := h
  obtain ⟨_, c6, _, _, rfl, rfl, ⟨rfl, rfl⟩, h⟩ := h
  obtain ⟨_, c7, _, _, rfl, rfl, ⟨rfl, rfl⟩, h⟩ := h
  obtain ⟨cg, c8, _, _, rfl, rfl, ⟨vg, rfl, _⟩, h⟩ := h
  obtain ⟨_, c9, _, _, rfl, rfl, ⟨rfl, rfl⟩, h⟩ := h
  obtain ⟨_, c10, _, _, rfl, rfl, ⟨rfl, rfl⟩, h⟩ := h
  obtain ⟨_, c11, _, _, rfl, rfl, ⟨rfl, rfl⟩, ⟨rfl, rfl⟩⟩ := h
  have hl : ca.length = 4 := Rep.len ha
  obtain ⟨q1, q2, q3, q4, rfl⟩ : ∃ q1 q2 q3 q4, ca = [q1, q2, q3, q4] := by
    match ca, hl with
    | [a, b, c, d], _ => exact ⟨a, b, c, d, rfl⟩
  rfl

theorem repL_lin {w : World} : ∀ {l : List tDd.den} {cs : List Value} {B : List Nat}, RepL (Rep w tDd) l cs B → ∀ i, i < l.length → cs[i * 15 + 13]? = some (.int .i64 (linOf (l.getD i tDd.dflt)))
  | [], _, _, h, i, hi => by simp at hi
  | x :: l, cs, B, h, i, hi => by
    obtain ⟨c1, c2, B1, B2, rfl, rfl, h1, h2⟩ := h
    have hl : c1.length = 15 := Rep.len h1
    cases i with
    | zero =>
      rw [List.getElem?_append_left (by omega)]
      simpa using dd_lin h1
    | succ i =>
      rw [List.getElem?_append_right (by omega), hl, show (i + 1) * 15 + 13 - 15 = i * 15 + 13 by omega]
      exact repL_lin h2 i (by simpa using hi)

theorem repL_int {w : World} : ∀ {l : List Int} {cs : List Value} {B : List Nat}, RepL (Rep w (.int .i64)) l cs B → B = [] ∧ cs = l.map (Value.int .i64)
  | [], _, _, h => ⟨h.2, h.1⟩
  | x :: l, _, _, h => by
    obtain ⟨c1, c2, B1, B2, rfl, rfl, ⟨rfl, rfl⟩, h2⟩ := h
    obtain ⟨rfl, rfl⟩ := repL_int h2
    exact ⟨rfl, rfl⟩

theorem int_repL {w : World} : ∀ (l : List Int), RepL (Rep w (.int .i64)) l (l.map (Value.int .i64)) []
  | [] => ⟨rfl, rfl⟩
  | x :: l => ⟨[.int .i64 x], l.map (Value.int .i64), [], [], rfl, rfl, ⟨rfl, rfl⟩, int_repL l⟩

/-- What the sorting leaves behind. -/
theorem ord_sorts {P : Program} {fs less : FuncId} {tA : TypeId}
    (tiny : ∀ (p : Option Addr) (n c : Nat), n ≤ 1 → ∀ (lb : Array Value) (w : World), Calls P fs #[.iface tA (.slice p n c), .func (.func less) #[] lb] w fun e w' => e = .returned (.tuple #[]) ∧ ∃ os, w' = Go.Sort.grow w os)
    (few : ∀ {nl : Nat} [Inhabited {x : Nat // x < nl}] (lin : Nat → Int) (blk off c Bl Bo bl ol cl : Nat) (d : Array {x : Nat // x < nl}) (w : World) (_ : 2 ≤ d.size) (_ : d.size < 1152921504606846976) (_ : nl < 4611686018427387904)
      (_ : Go.Sort.HoldsK (fun x : {x : Nat // x < nl} => [Value.int .i64 x.val]) 1 w blk off d) (_ : blk < w.heap.size)
      (_ : w.cell? ⟨Bl, 0, none⟩ = some (.slice (some ⟨bl, ol, none⟩) nl cl)) (_ : w.cell? ⟨Bo, 0, none⟩ = some (.slice (some ⟨blk, off, none⟩) d.size c))
      (_ : ∀ x, x < nl → w.cell? ⟨bl, ol + x * 15 + 13, none⟩ = some (.int .i64 (lin x))) (_ : Bl ≠ blk) (_ : Bo ≠ blk) (_ : bl ≠ blk) (_ : Bl < w.heap.size) (_ : Bo < w.heap.size) (_ : bl < w.heap.size),
      Calls P fs #[.iface tA (.slice (some ⟨blk, off, none⟩) d.size c), .func (.func less) #[] #[.pointer (some ⟨Bl, 0, none⟩), .pointer (some ⟨Bo, 0, none⟩)]] w fun e w' =>
        e = .returned (.tuple #[]) ∧ ∃ n os, w' = Go.Sort.grow (Go.Sort.putRowK (fun x : {x : Nat // x < nl} => [Value.int .i64 x.val]) 1 (Go.Sort.ahead w n) blk off (Go.Sort.insertionSort (fun x y => decide (lin x.val < lin y.val)) d 0 d.size)) os)
    {w : World} {out : List Int} {l : List tDd.den} {v vl : Value} {B BL : List Nat} {Bl Bo : Nat} (hB : RepS w 1 (Rep w (.int .i64)) out v B) (hBL : RepS w 15 (Rep w tDd) l vl BL)
    {cL cO : Array Value} {eL eO : TypeId} (hcl : w.heap[Bl]? = some (.cells cL eL (0, 0))) (hcl0 : cL.toList = [vl]) (hco : w.heap[Bo]? = some (.cells cO eO (0, 0))) (hco0 : cO.toList = [v])
    (hfr : ∀ b ∈ B, Fresh1 w b) (n1 : Bl ∉ B) (n2 : Bo ∉ B) (n3 : ∀ b ∈ BL, b ∉ B) (hlen : out.length < 1152921504606846976) (hll : l.length < 4611686018427387904) (hr : ∀ x ∈ out, 0 ≤ x ∧ x < (l.length : Int)) :
    Calls P fs #[.iface tA v, .func (.func less) #[] #[.pointer (some ⟨Bl, 0, none⟩), .pointer (some ⟨Bo, 0, none⟩)]] w fun e w' =>
      e = .returned (.tuple #[]) ∧ ∃ B', MPost w w' (.sl (.int .i64)) (sortBy (ordLt l) out) [v] B B' := by
  have hnd : B.Nodup := by
    rcases hB with ⟨_, _, rfl⟩ | ⟨b, off, cap, c, el, fz, Bs, _, _, _, _, rfl, hl⟩
    · simp
    · have := (repL_int hl).1
      rw [this]; simp
  by_cases h1 : out.length ≤ 1
  · obtain ⟨p, n, c, hv, hn⟩ : ∃ p n c, v = .slice p n c ∧ n ≤ 1 := by
      rcases hB with ⟨⟨ao, e⟩, _, _⟩ | ⟨b, off, cap, c, el, fz, Bs, e, _⟩
      · exact ⟨ao, 0, 0, e, by omega⟩
      · exact ⟨_, _, _, e, h1⟩
    rw [hv]
    refine (tiny p n c hn _ w).mono ?_
    rintro e w' ⟨rfl, os, rfl⟩
    have hs : ∀ b, b < w.heap.size → (Go.Sort.grow w os).heap[b]? = w.heap[b]? := fun b h => by
      show (w.heap ++ os)[b]? = _
      rw [Array.getElem?_append_left h]
    refine ⟨rfl, B, ?_, hnd, fun b hb => .inl hb, fun b hb => ?_, fun b hb _ => hs b hb, ?_, rfl, rfl, rfl⟩
    · rw [sortBy_short _ h1]
      exact ⟨_, rfl, hv ▸ RepS.mono (e := .int .i64) (fun b hb => hs b (RepS.bounds (e := .int .i64) hB b hb)) hB⟩
    · obtain ⟨c', el', hc'⟩ := hfr b hb
      exact ⟨c', el', by rw [hs b (lt_of_block hc')]; exact hc'⟩
    · show w.heap.size ≤ (w.heap ++ os).size
      rw [Array.size_append]; omega
  have hB0 := hB
  rcases hB with ⟨_, e, _⟩ | ⟨b, off, cap, c, el, fz, Bs, rfl, hcap, hbk, hsz, rfl, hl⟩
  · exact absurd (by rw [e]; simp) h1
  obtain ⟨rfl, hcs⟩ := repL_int hl
  have hfz : fz = (0, 0) := by
    obtain ⟨c', el', hc'⟩ := hfr b (by simp)
    rw [hbk] at hc'
    simp only [Option.some.injEq, Obj.cells.injEq] at hc'
    exact hc'.2.2
  subst hfz
  have hlpos : 0 < l.length := by
    cases out with
    | nil => simp at h1
    | cons x o => have := hr x (by simp); omega
  rcases hBL with ⟨_, e, _⟩ | ⟨bl, ol, capl, cL2, elL, fzL, BsL, rfl, hcapL, hbkL, hszL, rfl, hL⟩
  · rw [e] at hlpos; simp at hlpos
  obtain ⟨D, hD⟩ : ∃ D : List {x : Nat // x < l.length}, D.map (fun x => (x.val : Int)) = out := by
    obtain ⟨LA, hLA⟩ := sub_list (p := fun x : Nat => x < l.length) (out.map Int.toNat) (fun x hx => by
      obtain ⟨y, hy, rfl⟩ := List.mem_map.1 hx
      have := hr y hy; omega)
    refine ⟨LA, ?_⟩
    have : LA.map (fun x => (x.val : Int)) = (LA.map Subtype.val).map (fun n : Nat => (n : Int)) := by rw [List.map_map]; rfl
    rw [this, hLA, List.map_map]
    conv => rhs; rw [← List.map_id out]
    refine List.map_congr_left (fun x hx => ?_)
    have := hr x hx
    show ((x.toNat : Nat) : Int) = x
    omega
  have hDl : D.length = out.length := by rw [← hD]; simp
  haveI : Inhabited {x : Nat // x < l.length} := ⟨⟨0, hlpos⟩⟩
  have hk1 : ∀ x : {x : Nat // x < l.length}, ([Value.int .i64 (x.val : Int)]).length = 1 := fun _ => rfl
  have hflat : ∀ M : List {x : Nat // x < l.length}, M.flatMap (fun x => [Value.int .i64 (x.val : Int)]) = (M.map (fun x => (x.val : Int))).map (Value.int .i64) := fun M => by
    induction M with
    | nil => rfl
    | cons x M ih => rw [List.flatMap_cons, ih]; rfl
  have hcs2 : D.flatMap (fun x => [Value.int .i64 (x.val : Int)]) = (c.toList.drop off).take (out.length * 1) := by rw [hflat, hD]; exact hcs.symm
  have hblk : b < w.heap.size := lt_of_block hbk
  have hsz4 : off + cap * 1 ≤ c.size := hsz
  have hH : Go.Sort.HoldsK (fun x : {x : Nat // x < l.length} => [Value.int .i64 (x.val : Int)]) 1 w b off D.toArray := by
    intro j hj
    refine ⟨?_, frozen_row hbk _⟩
    rw [Go.Sort.size_flatK] at hj
    have hj2 : j < D.length * 1 := by simpa using hj
    rw [Go.Sort.get_flatK _ _ _ _ hj]
    have h2 := flat_at (enc := fun x : {x : Nat // x < l.length} => [Value.int .i64 (x.val : Int)]) hk1 (by omega) D j hj2
    rw [hcs2, List.getElem?_take, if_pos (by omega), List.getElem?_drop, Array.getElem?_toList] at h2
    unfold World.cell?
    simp only [hbk, Option.isSome_none, Bool.false_eq_true, if_false]
    rw [h2]
    simp
  have cellAt : ∀ {bk : Nat} {cc : Array Value} {ee : TypeId} {u : Value}, w.heap[bk]? = some (.cells cc ee (0, 0)) → cc.toList = [u] → w.cell? ⟨bk, 0, none⟩ = some u := by
    intro bk cc ee u hh hu
    unfold World.cell?
    simp only [hh, Option.isSome_none, Bool.false_eq_true, if_false]
    rw [← Array.getElem?_toList, hu]
    rfl
  have hcall := few (nl := l.length) (fun x => linOf (l.getD x tDd.dflt)) b off cap Bl Bo bl ol capl D.toArray w (by simp; omega) (by simp; omega) hll hH hblk (cellAt hcl hcl0) (by rw [cellAt hco hco0]; simp [hDl])
    (fun x hx => by
      have h3 := repL_lin hL x hx
      rw [List.getElem?_take, if_pos (by omega), List.getElem?_drop, Array.getElem?_toList] at h3
      unfold World.cell?
      simp only [hbkL, Option.isSome_none, Bool.false_eq_true, if_false]
      rw [← Nat.add_assoc] at h3
      exact h3) (fun e => n1 (by simp [e])) (fun e => n2 (by simp [e])) (fun e => n3 bl (by simp) (by simp [e])) (lt_of_block hcl) (lt_of_block hco) (lt_of_block hbkL)
  rw [ins_sort _ D (by omega)] at hcall
  have hsz2 : D.toArray.size = out.length := by simpa using hDl
  rw [hsz2] at hcall
  refine hcall.mono ?_
  rintro e w' ⟨rfl, n, os, hw⟩
  generalize hDS : sortBy (fun x y : {x : Nat // x < l.length} => decide (linOf (l.getD x.val tDd.dflt) < linOf (l.getD y.val tDd.dflt))) D = DS at hw
  have hperm : DS.Perm D := by rw [← hDS]; exact sortBy_perm _ _
  have hheap : ∀ k, k < w.heap.size → k ≠ b → w'.heap[k]? = w.heap[k]? := fun k hk hne => by
    rw [hw]
    show ((w.heap.modify b _) ++ os)[k]? = _
    rw [Array.getElem?_append_left (by rw [Array.size_modify]; exact hk), Array.getElem?_modify, if_neg (fun h => hne h.symm)]
  have hrow : w'.heap[b]? = some (.cells (Go.Sort.putCells id off (Go.Sort.flatK (fun x : {x : Nat // x < l.length} => [Value.int .i64 (x.val : Int)]) 1 DS.toArray) c) el (0, 0)) := by
    rw [hw]
    show ((w.heap.modify b _) ++ os)[b]? = _
    rw [Array.getElem?_append_left (by rw [Array.size_modify]; exact hblk), Array.getElem?_modify, if_pos rfl, hbk]
    rfl
  have hDSl : DS.length = out.length := by rw [hperm.length_eq, hDl]
  have hFs : (Go.Sort.flatK (fun x : {x : Nat // x < l.length} => [Value.int .i64 (x.val : Int)]) 1 DS.toArray).size = out.length * 1 := by
    rw [Go.Sort.size_flatK]; simp [hDSl]
  have hsort : sortBy (ordLt l) out = DS.map (fun x => (x.val : Int)) := by
    rw [← hD, ← hDS]
    exact (sortBy_map (lt := fun x y : {x : Nat // x < l.length} => decide (linOf (l.getD x.val tDd.dflt) < linOf (l.getD y.val tDd.dflt))) (lt' := ordLt l) (fun x => (x.val : Int)) (fun x y => by simp [ordLt]) D).symm
  have hsl : (sortBy (ordLt l) out).length = out.length := (sortBy_perm _ _).length_eq
  refine ⟨rfl, [b], ⟨_, rfl, .inr ⟨b, off, cap, _, el, (0, 0), [], by rw [hsl], by rw [hsl]; exact hcap, hrow, by rw [put_size]; exact hsz, rfl, ?_⟩⟩, by simp, fun x hx => .inl hx, fun x hx => ?_, fun x hx hn => hheap x hx (fun e => hn (by simp [e])), ?_, ?_, ?_, ?_⟩
  · have hp := put_list (F := Go.Sort.flatK (fun x : {x : Nat // x < l.length} => [Value.int .i64 (x.val : Int)]) 1 DS.toArray) (c := c) (off := off) (by rw [hFs]; omega)
    rw [hFs, flatK_list hk1 (by omega) DS, hflat, ← hsort] at hp
    rw [hsl]
    show RepL (Rep w' (.int .i64)) _ (((Go.Sort.putCells id off _ c).toList.drop off).take (out.length * 1)) []
    rw [hp]
    exact int_repL _
  · simp only [List.mem_singleton] at hx
    subst hx
    exact ⟨_, _, hrow⟩
  · rw [hw]
    show w.heap.size ≤ ((w.heap.modify b _) ++ os).size
    rw [Array.size_append, Array.size_modify]; omega
  · rw [hw]; rfl
  · rw [hw]; rfl
  · rw [hw]; rfl

end Vg

/- VG, part 76: a function that gathers numbers and puts them in order: its contract. -/
namespace Vg
open Go Go.RowKit

section
variable {P : Program} {C : Cx} {M : MTab} {w0 : World} {c0 : C0} {U : Nat → Prop} {E : Env} {a : Act} {w w' : World} {G : Gh} {Q : Exit → Act → World → Prop}

/-- What is owned is told anew. -/
theorem mpost_inv (hI : Inv w0 c0 U E a w G) {τ : Ty} {x y : τ.den} {sh : Sh} {cs : List Value} {ts : List Nat} (hv : VOk w G τ x sh cs) (hg : ∀ c ∈ sh.cols, Good U G c) (ho : ownT sh = some ts) {B B' : List Nat} (hc : ∀ b ∈ B, G.col b ∈ ts) (hp : MPost w w' τ y cs B B') :
    ∃ G', Inv w0 c0 U (E.mark (rowsOf τ y sh)) a w' G' := by
  have hown := ownT_own hv ho
  have h3 := Sh.own_ge hv hown
  obtain ⟨i1, i2, f, j1, j2⟩ := rows_ok hv ho hp.rep hp.nd
  obtain ⟨G', q, _⟩ := hI.remark (L := rowsOf τ y sh) (B := B) (B2 := B') (w' := w') (fun p hp => by
      have hin : p.t ∈ ts := by rw [← i1]; exact List.mem_map_of_mem hp
      exact ⟨i2 _ hin, hg _ (Sh.own_sub hown _ hin)⟩) f (fun b hb => by rw [i1]; exact hc b hb)
    (fun b hb => ⟨(hp.inn b hb).imp (fun h => by rw [i1]; exact hc b h) id, by rw [i1]; exact j1 b hb, hp.fresh b hb⟩) hp.frame hp.size hp.os hp.tape hp.output j2
  exact ⟨G', q⟩

theorem op_val {o : Oper} {v : Value} {K : Act → World → Prop} (h : (execOp a.eval o).run P w = .ok (.value v) w) (hK : K (a.put o.dst v) w) : o.wp P a w K Q := by
  unfold Oper.wp; rw [h]; exact hK

/-- The sorting, as it is asked of a program. -/
def SrtOk (P : Program) (fs less : FuncId) (tA : TypeId) : Prop :=
  ∀ {w : World} {out : List Int} {l : List tDd.den} {v vl : Value} {B BL : List Nat} {Bl Bo : Nat} (_ : RepS w 1 (Rep w (.int .i64)) out v B) (_ : RepS w 15 (Rep w tDd) l vl BL)
    {cL cO : Array Value} {eL eO : TypeId} (_ : w.heap[Bl]? = some (.cells cL eL (0, 0))) (_ : cL.toList = [vl]) (_ : w.heap[Bo]? = some (.cells cO eO (0, 0))) (_ : cO.toList = [v])
    (_ : ∀ b ∈ B, Fresh1 w b) (_ : Bl ∉ B) (_ : Bo ∉ B) (_ : ∀ b ∈ BL, b ∉ B) (_ : out.length < 1152921504606846976) (_ : l.length < 4611686018427387904) (_ : ∀ x ∈ out, 0 ≤ x ∧ x < (l.length : Int)),
    Calls P fs #[.iface tA v, .func (.func less) #[] #[.pointer (some ⟨Bl, 0, none⟩), .pointer (some ⟨Bo, 0, none⟩)]] w fun e w' =>
      e = .returned (.tuple #[]) ∧ ∃ B', MPost w w' (.sl (.int .i64)) (sortBy (ordLt l) out) [v] B B'

/-- The surroundings at the sorting: the deeds in a box, the numbers in a box. -/
def ordAnn : Ann := ⟨[(1, .box 3 (.sl tDd) (.sl (.sha [1]))), (3, .box 4 (.sl (.int .i64)) (.sl (.row 5 [] true)))], 6⟩

def ordE (N d0 d1 d2 d3 : Nat) (t : List tDd.den × List Int × Unit) (s : List Int) : Env :=
  (((((unproj N ordAnn t).set (some d0) .no).set (some d1) .no).set (some d2) .no).mark [⟨5, .int .i64, s⟩]).set (some d3) .no

theorem set_get_ne {E : Env} {d s : Nat} {v : SV} (h : s ≠ d) : (E.set (some d) v).s.getD s .no = E.s.getD s .no := by
  simp only [Env.set, get_set]
  rw [if_neg (fun e => h e.1)]

theorem ord_region (hm : P.funcs.size = P.funcs.size) {fs less : FuncId} {tA : TypeId} {sortF : Func} (hTy : TyFacts P tA (.sl (.int .i64))) {elA : TypeId} (hu : P.underlying tA = some (.slice elA)) (hS : SrtOk P fs less tA)
    (hsf : P.funcs[fs]? = some sortF) (hsn : (sortF.name == "runtime.NumGoroutine") = false) (hsb : sortF.body.isSome = true)
    {N d0 d1 d2 d3 id : Nat} {o0 o1 o2 o3 : Oper} {c : Call} {t : List tDd.den × List Int × Unit}
    (g0 : o0.guard = none ∧ o0.op = .load tA (.tmp 3) ∧ o0.dst = some d0) (g1 : o1.guard = none ∧ o1.op = .makeInterface tA (.tmp d0) ∧ o1.dst = some d1)
    (g2 : o2.guard = none ∧ o2.op = .makeFunc (.func less) #[] #[.tmp 1, .tmp 3] ∧ o2.dst = some d2) (g3 : o3.guard = none ∧ o3.op = .call c ∧ c.callee = .value (.func fs) ∧ c.args = #[.tmp d1, .tmp d2] ∧ o3.dst = some d3)
    (hd : d0 ≠ 1 ∧ d0 ≠ 3 ∧ d1 ≠ 1 ∧ d1 ≠ 3 ∧ d1 ≠ d0 ∧ d2 ≠ d1 ∧ d0 < N ∧ d1 < N ∧ d2 < N) (h3 : 3 < N)
    (hI : Inv w0 c0 (fun u => u < 6) (unproj N ordAnn t) a w G) (hlen : t.2.1.length < 1152921504606846976) (hll : t.1.length < 4611686018427387904) (hr : ∀ x ∈ t.2.1, 0 ≤ x ∧ x < (t.1.length : Int))
    (hK : ∀ a' w' G', Inv w0 c0 (fun u => u < 6) (ordE N d0 d1 d2 d3 t (sortBy (ordLt t.1) t.2.1)) a' w' G' → Q .normal a' w') : (Code.region id #[o0, o1, o2, o3] false).wp P Q a w := by
  obtain ⟨l, out, u⟩ := t
  have hEs : (unproj N ordAnn (l, out, u)).s = ((List.replicate N SV.no).set 1 (.box 3 ⟨.sl tDd, l, .sl (.sha [1])⟩)).set 3 (.box 4 ⟨.sl (.int .i64), out, .sl (.row 5 [] true)⟩) := rfl
  have hlenE : (unproj N ordAnn (l, out, u)).s.length = N := by rw [hEs]; simp
  have s1 : (unproj N ordAnn (l, out, u)).s.getD 1 .no = .box 3 ⟨.sl tDd, l, .sl (.sha [1])⟩ := by rw [hEs, get_set, if_neg (by omega), get_set, if_pos ⟨rfl, by simp; omega⟩]
  have s3 : (unproj N ordAnn (l, out, u)).s.getD 3 .no = .box 4 ⟨.sl (.int .i64), out, .sl (.row 5 [] true)⟩ := by rw [hEs, get_set, if_pos ⟨rfl, by simp; omega⟩]
  have k1 : SOk w G (.box 3 ⟨.sl tDd, l, .sl (.sha [1])⟩) (a.tmps.getD 1 undef) := (congrArg (fun z => SOk w G z (a.tmps.getD 1 undef)) s1).mp (hI.slots 1)
  have k3 : SOk w G (.box 4 ⟨.sl (.int .i64), out, .sl (.row 5 [] true)⟩) (a.tmps.getD 3 undef) := (congrArg (fun z => SOk w G z (a.tmps.getD 3 undef)) s3).mp (hI.slots 3)
  obtain ⟨Bl, cL, eL, p1, p2, p3, p4, p5, vl, p6, ⟨BL, p7, p8⟩, _⟩ := k1
  obtain ⟨Bo, cO, eO, q1, q2, q3, q4, q5, v, q6, q7, q8, B, q9, q10⟩ := k3
  have hcB : ∀ b ∈ B, G.col b = 5 := by
    intro b hb
    cases B with
    | nil => cases hb
    | cons b0 Bs =>
      obtain ⟨r1, r2, r3, r4⟩ := q10 b0 Bs rfl
      rcases List.mem_cons.1 hb with rfl | hb
      · exact r1
      · exact absurd (r3 b hb) (by simp)
  have hBo : Bo ∉ B := fun h => by have := hcB _ h; omega
  have hBl : Bl ∉ B := fun h => by have := hcB _ h; omega
  have hBL : ∀ b ∈ BL, b ∉ B := fun b h1 h2 => by
    have e1 := p8 b h1
    have e2 := hcB b h2
    simp only [List.mem_singleton] at e1
    omega
  have hts : a.tmps.size = N := hI.len.trans hlenE
  refine wp_region ?_
  show wpOps P #[o0, o1, o2, o3] Q [0, 1, 2, 3] a w
  -- the numbers
  rw [wpOps_cons]
  refine wpOp_of_value (ops := [o0, o1, o2, o3]) (o := o0) rfl (by simp [Region.wanted, g0.1]) (op_val (v := v) ?_ ?_)
  · simp only [execOp, g0.2.1]
    refine run_v ?_
    have he : a.eval (.tmp 3) = .pointer (some ⟨Bo, 0, none⟩) := q1
    simp only [Instr.loadAt, he, Instr.sureAddr]
    have hsz : 0 + (Ty.sl (.int .i64)).sz ≤ cO.size := by
      have := congrArg List.length q6
      simp only [Array.length_toList, List.length_singleton] at this
      rw [this]; decide
    have := run_loadVar' (P := P) hTy q5 (o := 0) hsz
    rw [List.drop_zero, q6] at this
    simpa [show mkv (Ty.sl (.int .i64)) (List.take (Ty.sl (Ty.int .i64)).sz [v]) = v from rfl] using this
  rw [g0.2.2]
  have hI1 := hI.putNo' (some d0) v
  generalize hE1 : (unproj N ordAnn (l, out, u)).set (some d0) .no = E1 at hI1
  generalize ha1 : a.put (some d0) v = a1 at hI1 ⊢
  have ht1 : ∀ s, s ≠ d0 → a1.tmps.getD s undef = a.tmps.getD s undef := fun s hs => by rw [← ha1]; exact putI_act _ _ _ (fun e => hs (by cases e; rfl))
  have ht1d : a1.tmps.getD d0 undef = v := by rw [← ha1]; exact put_self d0 v (by rw [hts]; exact hd.2.2.2.2.2.2.1)
  have hs1 : a1.tmps.size = N := by rw [← ha1]; simp [Act.put, hts]
  rw [wpOps_cons]
  refine wpOp_of_value (ops := [o0, o1, o2, o3]) (o := o1) rfl (by simp [Region.wanted, g1.1]) (op_val (v := .iface tA v) ?_ ?_)
  · simp only [execOp, g1.2.1]
    refine run_v ?_
    have he : a1.eval (.tmp d0) = v := ht1d
    simp only [Instr.makeInterface, he]
    have hun := run_underlying (w := w) hu
    simp [hun, Result.andThen]
  rw [g1.2.2]
  have hI2 := hI1.putNo' (some d1) (.iface tA v)
  generalize hE2 : E1.set (some d1) .no = E2 at hI2
  generalize ha2 : a1.put (some d1) (.iface tA v) = a2 at hI2 ⊢
  have ht2 : ∀ s, s ≠ d1 → a2.tmps.getD s undef = a1.tmps.getD s undef := fun s hs => by rw [← ha2]; exact putI_act _ _ _ (fun e => hs (by cases e; rfl))
  have ht2d : a2.tmps.getD d1 undef = .iface tA v := by rw [← ha2]; exact put_self d1 _ (by rw [hs1]; exact hd.2.2.2.2.2.2.2.1)
  have hs2 : a2.tmps.size = N := by rw [← ha2]; simp [Act.put, hs1]
  rw [wpOps_cons]
  have e1 : a2.tmps.getD 1 undef = .pointer (some ⟨Bl, 0, none⟩) := by rw [ht2 1 (Ne.symm hd.2.2.1), ht1 1 (Ne.symm hd.1)]; exact p1
  have e3 : a2.tmps.getD 3 undef = .pointer (some ⟨Bo, 0, none⟩) := by rw [ht2 3 (Ne.symm hd.2.2.2.1), ht1 3 (Ne.symm hd.2.1)]; exact q1
  refine wpOp_of_value (ops := [o0, o1, o2, o3]) (o := o2) rfl (by simp [Region.wanted, g2.1]) (op_val (v := .func (.func less) #[] #[.pointer (some ⟨Bl, 0, none⟩), .pointer (some ⟨Bo, 0, none⟩)]) ?_ ?_)
  · simp only [execOp, g2.2.1]
    refine run_v ?_
    have he1 : a2.eval (.tmp 1) = .pointer (some ⟨Bl, 0, none⟩) := e1
    have he3 : a2.eval (.tmp 3) = .pointer (some ⟨Bo, 0, none⟩) := e3
    simp [Instr.makeFunc, he1, he3]
  rw [g2.2.2]
  have hI3 := hI2.putNo' (some d2) (.func (.func less) #[] #[.pointer (some ⟨Bl, 0, none⟩), .pointer (some ⟨Bo, 0, none⟩)])
  generalize hE3 : E2.set (some d2) .no = E3 at hI3
  generalize ha3 : a2.put (some d2) (.func (.func less) #[] #[.pointer (some ⟨Bl, 0, none⟩), .pointer (some ⟨Bo, 0, none⟩)]) = a3 at hI3 ⊢
  have ht3 : a3.tmps.getD d1 undef = .iface tA v := by rw [← ha3, putI_act _ _ _ (fun e => hd.2.2.2.2.2.1 (by cases e; rfl))]; exact ht2d
  have ht3d : a3.tmps.getD d2 undef = .func (.func less) #[] #[.pointer (some ⟨Bl, 0, none⟩), .pointer (some ⟨Bo, 0, none⟩)] := by rw [← ha3]; exact put_self d2 _ (by rw [hs2]; exact hd.2.2.2.2.2.2.2.2)
  rw [wpOps_cons]
  have hB9 : RepS w 1 (Rep w (.int .i64)) out v B := q9
  have hcall := hS (w := w) (B := B) (BL := BL) (Bl := Bl) (Bo := Bo) hB9 p7 p5 p6 q5 q6 (fun b hb => hI.fresh b (by rw [hcB b hb]; omega)) hBl hBo hBL hlen hll hr
  refine wpOp_of_value (ops := [o0, o1, o2, o3]) (o := o3) rfl (by simp [Region.wanted, g3.1]) (wp_of_upon (R := fun mv w' => mv = .tuple #[] ∧ ∃ B', MPost w w' (.sl (.int .i64)) (sortBy (ordLt l) out) [v] B B') g3.2.1 g3.2.2.1 ?_ ?_)
  · rw [g3.2.2.2.1]
    have he : (#[Operand.tmp d1, .tmp d2].map a3.eval) = #[.iface tA v, .func (.func less) #[] #[.pointer (some ⟨Bl, 0, none⟩), .pointer (some ⟨Bo, 0, none⟩)]] := by
      have f1 : a3.eval (.tmp d1) = .iface tA v := ht3
      have f2 : a3.eval (.tmp d2) = .func (.func less) #[] #[.pointer (some ⟨Bl, 0, none⟩), .pointer (some ⟨Bo, 0, none⟩)] := ht3d
      simp [f1, f2]
    rw [he]
    exact upon_calls hsf hsn hsb (hcall.mono fun e w' ⟨h1, h2⟩ => ⟨_, h1, rfl, h2⟩)
  · rintro mv w' ⟨rfl, B', hp⟩
    obtain ⟨G', hI4⟩ := mpost_inv (τ := .sl (.int .i64)) (x := out) (y := sortBy (ordLt l) out) (sh := .sl (.row 5 [] true)) (cs := [v]) (ts := [5]) hI3 ⟨v, rfl, q7, q8, B, q9, q10⟩ (fun c hc => by
      have hcc : c = 5 := by simpa [Sh.cols, M.cols] using hc
      subst hcc
      exact hI.sc 3 5 ((congrArg (fun z : SV => 5 ∈ z.sc) s3).mpr (by simp [SV.sc, Sh.cols, M.cols]))) rfl (fun b hb => by simp [hcB b hb]) hp
    rw [g3.2.2.2.2]
    have hI5 := hI4.putNo' (some d3) (.tuple #[])
    refine hK _ _ G' ?_
    exact hI5

/-- What it computes. -/
def ordF (k : Nat) (x : List tDd.den × Unit) : Option (List Int × Unit) :=
 joinC (fun J1 =>
  loopN k (fun G3 (t4 : List tDd.den × List Int × List tDd.den × Int × Int × Unit) =>
   if (decide ((t4.2.2.2.2.1 : Int) < t4.2.2.2.1)) = true then
    if (decide (0 ≤ t4.2.2.2.2.1 ∧ t4.2.2.2.2.1 < ((List.length t4.2.2.1 : Nat) : Int))) = true then
     if ((linOf (List.getD t4.2.2.1 (Int.toNat t4.2.2.2.2.1) tDd.dflt) : Int) != (-1 : Int)) = true then
      if (decide (List.length t4.2.1 + List.length ([t4.2.2.2.2.1] : List Int) < 4294967296)) = true then
       G3 (t4.1, t4.2.1 ++ ([t4.2.2.2.2.1] : List Int), t4.2.2.1, t4.2.2.2.1, IntKind.i64.wrap (t4.2.2.2.2.1 + (1 : Int)), ())
      else
       none
     else
      G3 (t4.1, t4.2.1, t4.2.2.1, t4.2.2.2.1, IntKind.i64.wrap (t4.2.2.2.2.1 + (1 : Int)), ())
    else
     none
   else
    J1 (t4.1, t4.2.1, ())) (x.1, ([] : List Int), x.1, ((List.length x.1 : Nat) : Int), (0 : Int), ())) (fun (t2 : List tDd.den × List Int × Unit) => some t2)
 |>.bind fun t =>
  if (decide (t.2.1.length < 1152921504606846976) && decide (t.1.length < 4611686018427387904) && t.2.1.all (fun x => decide (0 ≤ x ∧ x < (t.1.length : Int)))) = true then some (sortBy (ordLt t.1) t.2.1, ()) else none

/-- The whole function. -/
def ordEv (C : Cx) (M : MTab) (N d0 d1 d2 d3 : Nat) (rv : List ResultVar) (x0 x1 x2 x3 : Code) (x : List tDd.den × Unit) : Option (List Int × Unit) :=
  (evM { C with n := N, io := [] } M x0 ⟨.d ⟨.sl tDd, x.1, .sl (.sha [1])⟩ :: List.replicate (N - 1) .no, 3, true⟩ (fun E => evM { C with n := N, io := [] } M x1 E (fun E => evM { C with n := N, io := [] } M x2 E (fun E => proj ordAnn E) [] (fun _ => none)) [] (fun _ => none)) [] (fun _ => none)).bind fun t =>
    if (decide (t.2.1.length < 1152921504606846976) && decide (t.1.length < 4611686018427387904) && t.2.1.all (fun x => decide (0 ≤ x ∧ x < (t.1.length : Int)))) = true then
      evM { C with n := N, io := [] } M x3 (ordE N d0 d1 d2 d3 t (sortBy (ordLt t.1) t.2.1)) (fin C.tt [.val (.sl tDd) .shr] [.val (.sl (.int .i64)) .own] [] rv 3) [] (fin C.tt [.val (.sl tDd) .shr] [.val (.sl (.int .i64)) .own] [] rv 3)
    else none

theorem ordE_noG {N d0 d1 d2 d3 : Nat} {t : List tDd.den × List Int × Unit} {s : List Int} : NoG (ordE N d0 d1 d2 d3 t s).s := by
  intro i j w1 act v
  exact set_ng mark_noG (by rintro _ _ _ _ ⟨⟩) i j w1 act v

theorem ordE_len {N d0 d1 d2 d3 : Nat} {t : List tDd.den × List Int × Unit} {s : List Int} : (ordE N d0 d1 d2 d3 t s).s.length = N := by
  unfold ordE
  rw [set_len, mark_len, set_len, set_len, set_len]
  obtain ⟨l, out, u⟩ := t
  show (((List.replicate N SV.no).set 1 _).set 3 _).length = N
  simp

theorem meets_ord (hC : CxOk P C) (hM : MTabOk P M) {fs less : FuncId} {tA : TypeId} {sortF : Func} (hTy : TyFacts P tA (.sl (.int .i64))) {elA : TypeId} (hu : P.underlying tA = some (.slice elA)) (hS : SrtOk P fs less tA)
    (hsf : P.funcs[fs]? = some sortF) (hsn : (sortF.name == "runtime.NumGoroutine") = false) (hsb : sortF.body.isSome = true)
    {f : FuncId} {fn : Func} (hf : P.funcs[f]? = some fn) (hname : (fn.name == "runtime.NumGoroutine") = false) {x0 x1 x2 x3 : Code}
    {N d0 d1 d2 d3 id : Nat} {o0 o1 o2 o3 : Oper} {c : Call} (hN : fn.ntmps = N) (h3 : 3 < N) (hb : fn.body = some (.seq x0 (.seq x1 (.seq x2 (.seq (.region id #[o0, o1, o2, o3] false) x3)))))
    (g0 : o0.guard = none ∧ o0.op = .load tA (.tmp 3) ∧ o0.dst = some d0) (g1 : o1.guard = none ∧ o1.op = .makeInterface tA (.tmp d0) ∧ o1.dst = some d1)
    (g2 : o2.guard = none ∧ o2.op = .makeFunc (.func less) #[] #[.tmp 1, .tmp 3] ∧ o2.dst = some d2) (g3 : o3.guard = none ∧ o3.op = .call c ∧ c.callee = .value (.func fs) ∧ c.args = #[.tmp d1, .tmp d2] ∧ o3.dst = some d3)
    (hd : d0 ≠ 1 ∧ d0 ≠ 3 ∧ d1 ≠ 1 ∧ d1 ≠ 3 ∧ d1 ≠ d0 ∧ d2 ≠ d1 ∧ d0 < N ∧ d1 < N ∧ d2 < N)
    {F : List tDd.den × Unit → Option (List Int × Unit)} (hF : ∀ x, ordEv C M N d0 d1 d2 d3 fn.results.toList x0 x1 x2 x3 x = F x) :
    Meets P f ⟨[.val (.sl tDd) .shr], [.val (.sl (.int .i64)) .own], F, []⟩ := by
  intro w G0 args x y hy hlot
  have hev := (hF x).trans hy
  unfold ordEv at hev
  obtain ⟨t, hpre, hev⟩ := Option.bind_eq_some_iff.1 hev
  split at hev
  rotate_left
  · cases hev
  rename_i hcond
  simp only [Bool.and_eq_true, decide_eq_true_eq, List.all_eq_true] at hcond
  obtain ⟨⟨hc1, hc2⟩, hc3⟩ := hcond
  have hrun : (callFunc f args.toArray).run P w = .ok (.enter f args.toArray) w := by
    have hne : fn.name ≠ "runtime.NumGoroutine" := by simpa using hname
    unfold callFunc
    simp [hf, hne, hb]
  unfold Upon
  rw [hrun]
  simp only
  refine calls_of_wp hf hb ?_
  have hE := begin_ok (ps := [.val (.sl tDd) .shr]) hlot fn.ntmps
  have hC2 : CxOk P { C with n := N, io := [] } := ⟨⟨hC.tt, hC.eq, hC.fs, hC.u8⟩, hC.ct, hC.mixed⟩
  have hfinal : KOk { C with n := N, io := [] } w (G0.beg (entNt [.val (.sl tDd) .shr] 3)) (fun i => args.getD i undef) y (fin C.tt [.val (.sl tDd) .shr] [.val (.sl (.int .i64)) .own] [] fn.results.toList 3) (fun a' w' =>
      a'.defers = [] ∧ ∃ v, (results fn a'.tmps).run P w' = .ok v w' ∧ ∃ v', Ending.returned v = Ending.returned v' ∧ ∃ G' vs nt, Post ⟨[.val (.sl tDd) .shr], [.val (.sl (.int .i64)) .own], F, []⟩ w G0 args y v' w' G' vs nt) := by
    intro E' a' w' G' k1 k2 k3 k4 kT k5
    obtain ⟨mv, G2, vs, nt, j1, j2⟩ := fin_ok (con := ⟨[.val (.sl tDd) .shr], [.val (.sl (.int .i64)) .own], F, []⟩) hC.toCxTy (args := args) hlot k1 k5 (fun i hi => by simp [ioIdx] at hi)
    exact ⟨k1.defers, mv, j1, mv, rfl, G2, vs, nt, j2⟩
  have hnone : ∀ {R : Act → World → Prop}, KOk { C with n := N, io := [] } w (G0.beg (entNt [.val (.sl tDd) .shr] 3)) (fun i => args.getD i undef) t (fun _ => none) R := by
    intro R E' a' w' G' _ _ _ _ _ h
    cases h
  have hE2 : Inv w (G0.beg (entNt [.val (.sl tDd) .shr] 3)) (fun u => u < 3) ⟨.d ⟨.sl tDd, x.1, .sl (.sha [1])⟩ :: List.replicate (N - 1) .no, 3, true⟩ { tmps := args.toArray ++ Array.replicate (fn.ntmps - args.toArray.size) undef, defers := [] } w G0 := by
    rw [← hN]; exact hE
  refine wp_seq ?_
  refine evM_ok (T := fun i => args.getD i undef) hC2 hM x0 hE2 (fun s j w1 act v h => ?_) (by simp; omega) (Nat.le_refl _) (fun i hi => by cases hi) hpre (fun E1 a1 w1 G1 k1 k2 k3 k4 kT k5 => ?_) (fun id k hk => by simp [List.lookup] at hk) hnone
  · cases s with
    | zero => simp at h
    | succ s => rw [List.getD_cons_succ, ← List.nil_append (List.replicate (N - 1) SV.no), getD_app_no] at h; simp at h
  refine wp_seq ?_
  refine evM_ok (T := fun i => args.getD i undef) hC2 hM x1 k1 k2 k3 k4 kT k5 (fun E1 a1 w1 G1 k1 k2 k3 k4 kT k5 => ?_) (fun id k hk => by simp [List.lookup] at hk) hnone
  refine wp_seq ?_
  refine evM_ok (T := fun i => args.getD i undef) hC2 hM x2 k1 k2 k3 k4 kT k5 (fun E1 a1 w1 G1 k1 k2 k3 k4 kT k5 => ?_) (fun id k hk => by simp [List.lookup] at hk) hnone
  obtain ⟨G2, m1, m2, m3, m4⟩ := proj_ok k1 k3 k5
  refine wp_seq ?_
  refine ord_region rfl hTy hu hS hsf hsn hsb g0 g1 g2 g3 hd h3 m1 hc1 hc2 hc3 (fun a' w' G' n1 => ?_)
  exact evM_ok (T := fun i => args.getD i undef) hC2 hM x3 (n1.mono (fun u hu => hu)) ordE_noG ordE_len (show 3 ≤ 6 by decide) (fun i hi => by cases hi) hev hfinal (fun id k hk => by simp [List.lookup] at hk) hfinal

end
end Vg

namespace Vg
open Go

structure OrdQ where
  x0 : Code
  x1 : Code
  x2 : Code
  x3 : Code
  id : Nat
  o0 : Oper
  o1 : Oper
  o2 : Oper
  o3 : Oper
  c : Call

def ordCut : Option Code → Option OrdQ
  | some (.seq x0 (.seq x1 (.seq x2 (.seq (.region id ⟨[o0, o1, o2, o3]⟩ false) x3)))) => (match o3.op with
    | .call c => some ⟨x0, x1, x2, x3, id, o0, o1, o2, o3, c⟩
    | _ => none)
  | _ => none

theorem ordCut_spec {b : Option Code} {q : OrdQ} (h : ordCut b = some q) : b = some (.seq q.x0 (.seq q.x1 (.seq q.x2 (.seq (.region q.id #[q.o0, q.o1, q.o2, q.o3] false) q.x3)))) ∧ q.o3.op = .call q.c := by
  unfold ordCut at h
  split at h
  · split at h
    · rename_i hc
      cases h
      exact ⟨rfl, hc⟩
    · cases h
  · cases h

end Vg

/- VG, part 60: sort.swapRange_func and sort.rotate_func at elements of several cells, by walks. -/
namespace Go.Proofs
open Go.Shelf Go.RowKit Go.Lib Go.Sort
set_option linter.unusedVariables false
variable {P : Program} {ρ : Ren} {α : Type} [Inhabited α]

/-- n elements from a and n from b change places. -/
def swapR (d : Array α) (a b : Nat) : Nat → Array α
  | 0 => d
  | n + 1 => swp (swapR d a b n) (a + n) (b + n)
@[simp] theorem size_swapR (d : Array α) (a b : Nat) : ∀ n, (swapR d a b n).size = d.size
  | 0 => rfl
  | n + 1 => by rw [swapR, size_swp, size_swapR d a b n]

set_option maxHeartbeats 1600000 in
set_option maxRecDepth 1000000 in
theorem vgSwapRange (L : LaysGt.n49 P ρ) {enc : α → List Value} {k : Nat} (hk : ∀ x, (enc x).length = k) (lf : Fn) (la lb : Array Value) (sf : Nat) (sb : Array Value) {blk off : Nat} (a b n : Nat) {d : Array α} {w : World}
    (hswap : SwapSwapsK P sf sb enc k blk off d.size) (hH : HoldsK enc k w blk off d) (hblk : blk < w.heap.size) (ha : a + n ≤ d.size) (hb : b + n ≤ d.size) (hsz : d.size < 4611686018427387904) :
    Calls P (ρ.f 49) #[.agg #[.func lf la lb, .func (.func sf) #[] sb], .int .i64 a, .int .i64 b, .int .i64 n] w fun e w' => e = .returned (.tuple #[]) ∧ ∃ m os, w' = sortWorldK enc k w blk off m (swapR d a b n) os := by
  have mixed := L.mixed; have t0 := L.t0; have a0 := L.a0; have z0 := L.z0; have v0 := L.v0; have t3 := L.t3; have a3 := L.a3; have z3 := L.z3; have v3 := L.v3; have t4 := L.t4; have a4 := L.a4; have z4 := L.z4; have v4 := L.v4; have t26 := L.t26; have a26 := L.a26; have z26 := L.z26; have v26 := L.v26; have t38 := L.t38; have a38 := L.a38; have z38 := L.z38; have v38 := L.v38; have t42 := L.t42; have a42 := L.a42; have z42 := L.z42; have v42 := L.v42
  have u42 := run_underlying L.t42
  have hH1 : HoldsK enc k (w.alloc (.cells #[.func lf la lb, .func (.func sf) #[] sb] (ρ.t 42))) blk off d := by rw [alloc_eq_grow]; exact holdsK_grow enc k w _ blk off d hblk hH
  go_enter L.f49, BodyGt.n49_ntmps ρ
  go_wp2
  go_loopg [8] n (fun kx s8 wr => ∃ (i : Nat) (m : Nat), s8 = .int .i64 i ∧ i ≤ n ∧ n - i ≤ kx ∧ wr = putRowK enc k (Sort.ahead (w.alloc (.cells #[.func lf la lb, .func (.func sf) #[] sb] (ρ.t 42))) m) blk off (swapR d a b i))
  case atStart => exact ⟨0, 0, rfl, by omega, by omega, (putRowK_self enc k _ blk off d hH1).symm⟩
  case round =>
    obtain ⟨i, m, rfl, hi, hkx, hwr⟩ := hrel
    by_cases hlt : i < n
    · have hds : (swapR d a b i).size = d.size := size_swapR d a b i
      have hHk : HoldsK enc k wr blk off (swapR d a b i) := by rw [hwr]; exact holdsK_putRowK enc k _ blk off d _ (holdsK_ahead enc k _ m blk off d hH1) hds
      have c1 : wr.cell? ⟨w.heap.size, 1, none⟩ = some (.func (.func sf) #[] sb) := by
        rw [hwr, cell?_putRowK_other enc k _ blk off _ _ (by show w.heap.size ≠ blk; omega)]; show ((w.alloc (.cells #[.func lf la lb, .func (.func sf) #[] sb] (ρ.t 42)))).cell? _ = _; simp
      have hs := hswap wr _ hHk hds (a + i) (b + i) (by omega) (by omega)
      have A : Aside (wr = putRowK enc k (Sort.ahead (w.alloc (.cells #[.func lf la lb, .func (.func sf) #[] sb] (ρ.t 42))) m) blk off (swapR d a b i)) := hwr
      clear hwr hHk hH hH1 hswap
      rw [show (((a + i : Nat) : Int)) = (a : Int) + i by omega, show (((b + i : Nat) : Int)) = (b : Int) + i by omega] at hs
      go_wp2
      go_roundg (n - (i + 1))
      case measure => omega
      case rel =>
        exact ⟨i + 1, m, by simp, by omega, Nat.le_refl _, by rw [A.out, swapR, ← putRowK_swp enc k hk _ blk off _ (a + i) (b + i) (by omega) (by omega)]⟩
    · obtain rfl : i = n := by omega
      go_wp2
      go_end0
      exact ⟨rfl, m, _, sortWorldK_of_alloc enc k w _ blk off m _ hblk⟩

/-- The rows [m-i, m) and [m, m+j) change places. -/
def rotR (m : Nat) (d : Array α) (i j : Nat) : Array α :=
  if h : 0 < i ∧ 0 < j ∧ i ≠ j then
    if j < i then rotR m (swapR d (m - i) m j) (i - j) j else rotR m (swapR d (m - i) (m + j - i) i) i (j - i)
  else swapR d (m - i) m i
termination_by i + j
decreasing_by all_goals omega

theorem size_rotR (m : Nat) (d : Array α) (i j : Nat) : (rotR m d i j).size = d.size := by
  fun_induction rotR m d i j with
  | case1 d i j h1 h2 ih => rw [ih, size_swapR]
  | case2 d i j h1 h2 ih => rw [ih, size_swapR]
  | case3 d i j h => rw [size_swapR]

set_option maxHeartbeats 3200000 in
set_option maxRecDepth 1000000 in
theorem vgRotate (L : LaysGt.n42 P ρ) {enc : α → List Value} {k : Nat} (hk : ∀ x, (enc x).length = k) (lf : Fn) (la lb : Array Value) (sf : Nat) (sb : Array Value) {blk off : Nat} (a m b : Nat) {d : Array α} {w : World}
    (hswap : SwapSwapsK P sf sb enc k blk off d.size) (hH : HoldsK enc k w blk off d) (hblk : blk < w.heap.size) (ham : a < m) (hmb : m < b) (hb : b ≤ d.size) (hsz : d.size < 4611686018427387904) :
    Calls P (ρ.f 42) #[.agg #[.func lf la lb, .func (.func sf) #[] sb], .int .i64 a, .int .i64 m, .int .i64 b] w fun e w' => e = .returned (.tuple #[]) ∧ ∃ n os, w' = sortWorldK enc k w blk off n (rotR m d (m - a) (b - m)) os := by
  have mixed := L.mixed; have t0 := L.t0; have a0 := L.a0; have z0 := L.z0; have v0 := L.v0; have t3 := L.t3; have a3 := L.a3; have z3 := L.z3; have v3 := L.v3; have t4 := L.t4; have a4 := L.a4; have z4 := L.z4; have v4 := L.v4; have t26 := L.t26; have a26 := L.a26; have z26 := L.z26; have v26 := L.v26; have t38 := L.t38; have a38 := L.a38; have z38 := L.z38; have v38 := L.v38; have t42 := L.t42; have a42 := L.a42; have z42 := L.z42; have v42 := L.v42
  have u42 := run_underlying L.t42
  have e49 : ∀ args w, (callFunc (ρ.f 49) args).run P w = .ok (.enter (ρ.f 49) args) w := enters_of L.f49 (by kernel_rfl) rfl
  have hH1 : HoldsK enc k (w.alloc (.cells #[.func lf la lb, .func (.func sf) #[] sb] (ρ.t 42))) blk off d := by rw [alloc_eq_grow]; exact holdsK_grow enc k w _ blk off d hblk hH
  have hb1 : blk < (w.alloc (.cells #[.func lf la lb, .func (.func sf) #[] sb] (ρ.t 42))).heap.size := by rw [alloc_eq_grow, size_grow]; omega
  have bx : ∀ (q : Nat) (v : Value), (w.alloc (.cells #[.func lf la lb, .func (.func sf) #[] sb] (ρ.t 42))).cell? ⟨w.heap.size, q, none⟩ = some v → ∀ n (X : Array α) os, (sortWorldK enc k (w.alloc (.cells #[.func lf la lb, .func (.func sf) #[] sb] (ρ.t 42))) blk off n X os).cell? ⟨w.heap.size, q, none⟩ = some v := fun q v h n X os => by
    unfold sortWorldK
    rw [cell?_grow _ _ _ (by rw [size_putRowK]; show w.heap.size < (w.alloc _).heap.size; rw [alloc_eq_grow, size_grow]; simp), cell?_putRowK_other enc k _ blk off _ _ (by show w.heap.size ≠ blk; omega)]; exact h
  have bx0 := bx 0 (.func lf la lb) (by simp)
  have bx1 := bx 1 (.func (.func sf) #[] sb) (by simp)
  have hcall : ∀ (n : Nat) (X : Array α) os, X.size = d.size → ∀ x y z : Nat, x + z ≤ d.size → y + z ≤ d.size →
      Calls P (ρ.f 49) #[.agg #[.func lf la lb, .func (.func sf) #[] sb], .int .i64 x, .int .i64 y, .int .i64 z] (sortWorldK enc k (w.alloc (.cells #[.func lf la lb, .func (.func sf) #[] sb] (ρ.t 42))) blk off n X os) fun e w' =>
        e = .returned (.tuple #[]) ∧ ∃ n' os', w' = sortWorldK enc k (w.alloc (.cells #[.func lf la lb, .func (.func sf) #[] sb] (ρ.t 42))) blk off n' (swapR X x y z) os' := fun n X os hX x y z h1 h2 => by
    refine (vgSwapRange ({ L with } : LaysGt.n49 P ρ) hk lf la lb sf sb x y z (d := X) (by rw [hX]; exact hswap) (holdsK_sortWorldK enc k _ blk off n d X os hb1 hH1 hX) ?_ (by omega) (by omega) (by omega)).mono ?_
    · unfold sortWorldK; rw [size_grow, size_putRowK]; show blk < (w.alloc _).heap.size + _; omega
    · rintro e w' ⟨rfl, n', os', rfl⟩
      exact ⟨rfl, _, _, sortWorldK_on enc k _ blk off n n' X _ os os' hb1 (size_swapR ..)⟩
  have hstart := sortWorldK_start enc k _ blk off d hH1
  have hfin : ∀ n (X : Array α) os, ∃ n' os', sortWorldK enc k (w.alloc (.cells #[.func lf la lb, .func (.func sf) #[] sb] (ρ.t 42))) blk off n X os = sortWorldK enc k w blk off n' X os' := fun n X os =>
    ⟨n, _, by unfold sortWorldK; rw [alloc_eq_grow, ahead_grow, putRowK_grow enc k (Sort.ahead w n) _ blk off _ hblk, grow_grow]⟩
  clear bx hswap hH hH1
  generalize hW1 : w.alloc (.cells #[.func lf la lb, .func (.func sf) #[] sb] (ρ.t 42)) = W1 at *
  go_enter L.f42, BodyGt.n42_ntmps ρ
  go_wp2
  go_loopg [8, 9] (b - a) (fun kx s8 s9 wr => ∃ (i j : Nat) (n : Nat) (X : Array α) (os : Array Obj), s8 = .int .i64 i ∧ s9 = .int .i64 j ∧ 0 < i ∧ 0 < j ∧ i ≤ m ∧ m + j ≤ d.size ∧ i + j ≤ kx ∧ X.size = d.size ∧
    wr = sortWorldK enc k W1 blk off n X os ∧ rotR m X i j = rotR m d (m - a) (b - m))
  case atStart => exact ⟨m - a, b - m, 0, d, #[], by congr 1; omega, by congr 1; omega, by omega, by omega, by omega, by omega, by omega, rfl, hstart.symm, rfl⟩
  case round =>
    obtain ⟨i, j, n, X, os, rfl, rfl, hi, hj, him, hmj, hkx, hX, hwr, hR⟩ := hrel
    have c0 : wr.cell? ⟨w.heap.size, 0, none⟩ = some (.func lf la lb) := by rw [hwr]; exact bx0 n X os
    have c1 : wr.cell? ⟨w.heap.size, 1, none⟩ = some (.func (.func sf) #[] sb) := by rw [hwr]; exact bx1 n X os
    have hc := hcall n X os hX
    rw [← hwr] at hc
    clear hwr hcall bx0 bx1
    rw [rotR] at hR
    by_cases heq : i = j
    · subst heq
      rw [dif_neg (by omega)] at hR
      have hc := hc (m - i) m i (by omega) (by omega)
      rw [show (((m - i : Nat) : Int)) = (m : Int) - i by omega] at hc
      go_wp2_with (go_at_fn (ρ.f 49); refine hc.mono ?_; rintro e w1 ⟨rfl, n2, os2, rfl⟩)
      go_end0
      exact ⟨rfl, hfin _ _ _⟩
    · rw [dif_pos ⟨hi, hj, heq⟩] at hR
      by_cases hji : j < i
      · rw [if_pos hji] at hR
        have hc := hc (m - i) m j (by omega) (by omega)
        rw [show (((m - i : Nat) : Int)) = (m : Int) - i by omega] at hc
        go_wp2_with (go_at_fn (ρ.f 49); refine hc.mono ?_; rintro e w1 ⟨rfl, n2, os2, rfl⟩)
        go_roundg (i + j - j)
        case measure => omega
        case rel => exact ⟨i - j, j, n2, _, os2, by congr 1; omega, rfl, by omega, by omega, by omega, by omega, by omega, by rw [size_swapR]; exact hX, rfl, hR⟩
      · rw [if_neg hji] at hR
        have hc := hc (m - i) (m + j - i) i (by omega) (by omega)
        rw [show (((m - i : Nat) : Int)) = (m : Int) - i by omega, show (((m + j - i : Nat) : Int)) = (m : Int) + j - i by omega] at hc
        go_wp2_with (go_at_fn (ρ.f 49); refine hc.mono ?_; rintro e w1 ⟨rfl, n2, os2, rfl⟩)
        go_roundg (i + j - i)
        case measure => omega
        case rel => exact ⟨i, j - i, n2, _, os2, rfl, by congr 1; omega, by omega, by omega, by omega, by omega, by omega, by rw [size_swapR]; exact hX, rfl, hR⟩

end Go.Proofs

/- VG, part 61: sort.symMerge_func: one element on a side. -/
namespace Go.Proofs
open Go.Shelf Go.RowKit Go.Lib Go.Sort
set_option linter.unusedVariables false
variable {P : Program} {ρ : Ren} {α : Type} [Inhabited α]

/-- The first place from i on, below j, at which p does not hold any more, looked up by halves. -/
def bsr (p : Nat → Bool) (i j : Nat) : Nat :=
  if h : i < j then (if p ((i + j) / 2) then bsr p ((i + j) / 2 + 1) j else bsr p i ((i + j) / 2)) else i
termination_by j - i
decreasing_by all_goals omega
def moveUp (d : Array α) (k e : Nat) : Array α := if k < e then moveUp (swp d k (k + 1)) (k + 1) e else d
termination_by e - k
def moveDown (d : Array α) (k e : Nat) : Array α := if h : e < k then moveDown (swp d k (k - 1)) (k - 1) e else d
termination_by k - e
theorem bsr_le (p : Nat → Bool) (i j : Nat) (h : i ≤ j) : i ≤ bsr p i j ∧ bsr p i j ≤ j := by
  fun_induction bsr p i j with
  | case1 i j h1 h2 ih => have := ih (by omega); omega
  | case2 i j h1 h2 ih => have := ih (by omega); omega
  | case3 i j h1 => omega
theorem size_moveUp (d : Array α) (k e : Nat) : (moveUp d k e).size = d.size := by
  fun_induction moveUp d k e with
  | case1 d k h ih => rw [ih, size_swp]
  | case2 d k h => rfl
theorem size_moveDown (d : Array α) (k e : Nat) : (moveDown d k e).size = d.size := by
  fun_induction moveDown d k e with
  | case1 d k h ih => rw [ih, size_swp]
  | case2 d k h => rfl

theorem sortWorldK_drewN (enc : α → List Value) (k : Nat) (w0 : World) (blk off n q : Nat) (dk : Array α) (os : Array Obj) :
    (sortWorldK enc k w0 blk off n dk os).drewN q = sortWorldK enc k w0 blk off (n + q) dk os := by
  unfold sortWorldK; rw [← putRowK_drewN enc k w0 n q blk off dk]; rfl

theorem sortWorldK_swap {enc : α → List Value} {k : Nat} (hk : ∀ x, (enc x).length = k) (w0 : World) {blk off : Nat} (n : Nat) {dk : Array α} (os : Array Obj) (hblk : blk < w0.heap.size) {i j : Nat} (hi : i < dk.size) (hj : j < dk.size) :
    ((sortWorldK enc k w0 blk off n dk os).setCells blk (off + i * k) (enc dk[j]!)).setCells blk (off + j * k) (enc dk[i]!) = sortWorldK enc k w0 blk off n (swp dk i j) os := by
  unfold sortWorldK
  rw [← putRowK_grow enc k (Sort.ahead w0 n) os blk off dk hblk, putRowK_swp enc k hk _ blk off dk i j hi hj, putRowK_grow enc k (Sort.ahead w0 n) os blk off _ hblk]

/-- What a walk behind 'data' in a box needs: its two cells, 'less' and 'swap' in every world that is passed. -/
structure Boxed (P : Program) (enc : α → List Value) (k : Nat) (lt : α → α → Bool) (g : Nat) (lb : Array Value) (sf : Nat) (sb : Array Value) (blk off size hb : Nat) (w W1 : World) : Prop where
  c0 : ∀ n (X : Array α) os, (sortWorldK enc k W1 blk off n X os).cell? ⟨hb, 0, none⟩ = some (.func (.func g) #[] lb)
  c1 : ∀ n (X : Array α) os, (sortWorldK enc k W1 blk off n X os).cell? ⟨hb, 1, none⟩ = some (.func (.func sf) #[] sb)
  less : ∀ n (X : Array α) os, X.size = size → ∀ i j : Nat, i < size → j < size →
    Calls P g (#[.int .i64 i, .int .i64 j] ++ lb) (sortWorldK enc k W1 blk off n X os) fun e w' => e = .returned (.bool (lt X[i]! X[j]!)) ∧ ∃ q, w' = sortWorldK enc k W1 blk off (n + q) X os
  swap : ∀ n (X : Array α) os, X.size = size → ∀ i j : Nat, i < size → j < size →
    (callFunc sf (#[.int .i64 i, .int .i64 j] ++ sb)).run P (sortWorldK enc k W1 blk off n X os) = .ok (.value (.tuple #[])) (sortWorldK enc k W1 blk off n (swp X i j) os)
  fin : ∀ n (X : Array α) os, ∃ n' os', sortWorldK enc k W1 blk off n X os = sortWorldK enc k w blk off n' X os'
  lt_blk : blk < W1.heap.size

theorem boxed_of {enc : α → List Value} {k : Nat} (hk : ∀ x, (enc x).length = k) {lt : α → α → Bool} {g : Nat} {lb : Array Value} {sf : Nat} {sb : Array Value} {blk off : Nat} {d : Array α} {w : World} {t : TypeId}
    (hless : LessReadsK P g lb enc k lt blk off d.size w) (hswap : SwapSwapsK P sf sb enc k blk off d.size) (hH : HoldsK enc k w blk off d) (hblk : blk < w.heap.size) :
    Boxed P enc k lt g lb sf sb blk off d.size w.heap.size w (w.alloc (.cells #[.func (.func g) #[] lb, .func (.func sf) #[] sb] t)) ∧
      sortWorldK enc k (w.alloc (.cells #[.func (.func g) #[] lb, .func (.func sf) #[] sb] t)) blk off 0 d #[] = w.alloc (.cells #[.func (.func g) #[] lb, .func (.func sf) #[] sb] t) := by
  have hH1 : HoldsK enc k (w.alloc (.cells #[.func (.func g) #[] lb, .func (.func sf) #[] sb] t)) blk off d := by rw [alloc_eq_grow]; exact holdsK_grow enc k w _ blk off d hblk hH
  have hb1 : blk < (w.alloc (.cells #[.func (.func g) #[] lb, .func (.func sf) #[] sb] t)).heap.size := by rw [alloc_eq_grow, size_grow]; omega
  have bx : ∀ (q : Nat) (v : Value), (w.alloc (.cells #[.func (.func g) #[] lb, .func (.func sf) #[] sb] t)).cell? ⟨w.heap.size, q, none⟩ = some v → ∀ n (X : Array α) os, (sortWorldK enc k (w.alloc (.cells #[.func (.func g) #[] lb, .func (.func sf) #[] sb] t)) blk off n X os).cell? ⟨w.heap.size, q, none⟩ = some v := fun q v h n X os => by
    unfold sortWorldK
    rw [cell?_grow _ _ _ (by rw [size_putRowK]; show w.heap.size < (w.alloc _).heap.size; rw [alloc_eq_grow, size_grow]; simp), cell?_putRowK_other enc k _ blk off _ _ (by show w.heap.size ≠ blk; omega)]; exact h
  have hl1 : LessReadsK P g lb enc k lt blk off d.size (w.alloc (.cells #[.func (.func g) #[] lb, .func (.func sf) #[] sb] t)) := by rw [alloc_eq_grow]; exact hless.grow hblk _
  refine ⟨⟨bx 0 _ (by simp), bx 1 _ (by simp), fun n X os hX i j hi hj => ?_, fun n X os hX i j hi hj => ?_, fun n X os => ?_, hb1⟩, sortWorldK_start enc k _ blk off d hH1⟩
  · refine (hl1 n os X hX i j hi hj).mono ?_
    rintro e w' ⟨rfl, q, rfl⟩
    exact ⟨rfl, q, sortWorldK_drewN ..⟩
  · rw [hswap _ X (holdsK_sortWorldK enc k _ blk off n d X os hb1 hH1 hX) hX i j hi hj, sortWorldK_swap hk _ n os hb1 (by omega) (by omega)]
  · exact ⟨n, _, by unfold sortWorldK; rw [alloc_eq_grow, ahead_grow, putRowK_grow enc k (Sort.ahead w n) _ blk off _ hblk, grow_grow]⟩

set_option maxHeartbeats 3200000 in
set_option maxRecDepth 1000000 in
theorem vgSymLeft (L : LaysGt.n30 P ρ) {enc : α → List Value} {k : Nat} (hk : ∀ x, (enc x).length = k) (lt : α → α → Bool) {g : Nat} {lb : Array Value} {sf : Nat} {sb : Array Value} {blk off : Nat} (a m b : Nat) {d : Array α} {w : World}
    (eg : ∀ args w, (callFunc g args).run P w = .ok (.enter g args) w) (hless : LessReadsK P g lb enc k lt blk off d.size w) (hswap : SwapSwapsK P sf sb enc k blk off d.size) (hH : HoldsK enc k w blk off d) (hblk : blk < w.heap.size)
    (ham : a < m) (ham2 : m ≤ a + 1) (hmb : m < b) (hb : b ≤ d.size) (hsz : d.size < 4611686018427387904) :
    Calls P (ρ.f 30) #[.agg #[.func (.func g) #[] lb, .func (.func sf) #[] sb], .int .i64 a, .int .i64 m, .int .i64 b] w fun e w' => e = .returned (.tuple #[]) ∧
      ∃ n os, w' = sortWorldK enc k w blk off n (moveUp d a (bsr (fun h => lt d[h]! d[a]!) m b - 1)) os := by
  have mixed := L.mixed; have t0 := L.t0; have a0 := L.a0; have z0 := L.z0; have v0 := L.v0; have t3 := L.t3; have a3 := L.a3; have z3 := L.z3; have v3 := L.v3; have t4 := L.t4; have a4 := L.a4; have z4 := L.z4; have v4 := L.v4; have t26 := L.t26; have a26 := L.a26; have z26 := L.z26; have v26 := L.v26; have t38 := L.t38; have a38 := L.a38; have z38 := L.z38; have v38 := L.v38; have t42 := L.t42; have a42 := L.a42; have z42 := L.z42; have v42 := L.v42; have t47 := L.t47; have a47 := L.a47; have z47 := L.z47; have v47 := L.v47
  have u42 := run_underlying L.t42
  obtain ⟨B, hstart⟩ := boxed_of (t := ρ.t 42) hk hless hswap hH hblk
  clear hless hswap hH
  generalize hW1 : w.alloc (.cells #[.func (.func g) #[] lb, .func (.func sf) #[] sb] (ρ.t 42)) = W1 at *
  have q1 : ((m : Int) - (a : Int) == 1) = true := by rw [beq_iff_eq]; omega
  go_enter L.f30, BodyGt.n30_ntmps ρ
  go_wp2
  go_loopg [8, 9] (b - a) (fun kx s8 s9 wr => ∃ (i j n : Nat) (os : Array Obj), s8 = .int .i64 i ∧ s9 = .int .i64 j ∧ m ≤ i ∧ i ≤ j ∧ j ≤ b ∧ j - i ≤ kx ∧ wr = sortWorldK enc k W1 blk off n d os ∧
    bsr (fun h => lt d[h]! d[a]!) i j = bsr (fun h => lt d[h]! d[a]!) m b)
  case atStart => exact ⟨m, b, 0, #[], rfl, rfl, by omega, by omega, by omega, by omega, hstart.symm, rfl⟩
  case round =>
    obtain ⟨i, j, n, os, rfl, rfl, hai, hij, hjb, hkx, hwr, hbs⟩ := hrel
    have c0 := B.c0 n d os
    have c1 := B.c1 n d os
    rw [← hwr] at c0 c1
    by_cases hlt : i < j
    · have hl := B.less n d os rfl ((i + j) / 2) a (by omega) (by omega)
      rw [← hwr] at hl
      rw [bsr, dif_pos hlt] at hbs
      have HB : Hid _ := hbs
      clear hwr hbs B
      cases hv : lt d[(i + j) / 2]! d[a]! with
      | true =>
        rw [hv] at hl HB
        go_wp2_with (go_at_fn g; refine hl.mono ?_; rintro e w' ⟨rfl, q, rfl⟩)
        go_roundg (j - ((i + j) / 2 + 1))
        case measure => omega
        case rel => exact ⟨(i + j) / 2 + 1, j, n + q, os, by go_num, rfl, by omega, by omega, by omega, Nat.le_refl _, rfl, HB.out⟩
      | false =>
        rw [hv] at hl HB
        go_wp2_with (go_at_fn g; refine hl.mono ?_; rintro e w' ⟨rfl, q, rfl⟩)
        go_roundg ((i + j) / 2 - i)
        case measure => omega
        case rel => exact ⟨i, (i + j) / 2, n + q, os, rfl, by go_num, by omega, by omega, by omega, Nat.le_refl _, rfl, HB.out⟩
    · obtain rfl : i = j := by omega
      rw [bsr, dif_neg hlt] at hbs
      have HB : Hid _ := hbs
      clear hbs
      go_wp2
      go_loopg [11] (i - a) (fun kx s11 wr2 => ∃ (c n : Nat) (X : Array α) (os : Array Obj), s11 = .int .i64 c ∧ a ≤ c ∧ c ≤ i - 1 ∧ i - c ≤ kx ∧ X.size = d.size ∧ wr2 = sortWorldK enc k W1 blk off n X os ∧
        moveUp X c (i - 1) = moveUp d a (i - 1))
      case atStart => exact ⟨a, n, d, os, rfl, by omega, by omega, by omega, rfl, (by first | exact hwr | rfl), rfl⟩
      case round =>
        obtain ⟨c, n2, X, os2, rfl, hac, hci, hkx2, hX, hwr2, hmv⟩ := hrel
        have c1 := B.c1 n2 X os2
        rw [← hwr2] at c1
        by_cases hlt2 : c < i - 1
        · have hs := B.swap n2 X os2 hX c (c + 1) (by omega) (by omega)
          rw [← hwr2, show (((c + 1 : Nat) : Int)) = (c : Int) + 1 by omega] at hs
          rw [moveUp, if_pos hlt2] at hmv
          have HM : Hid _ := hmv
          clear hmv hwr2 hwr B c0
          go_wp2
          go_roundg (i - (c + 1))
          case measure => omega
          case rel => exact ⟨c + 1, n2, _, os2, by go_num, by omega, by omega, Nat.le_refl _, by rw [size_swp]; exact hX, rfl, HM.out⟩
        · rw [moveUp, if_neg hlt2] at hmv
          have HM : Hid _ := hmv
          have hf := B.fin n2 X os2
          rw [← hwr2] at hf
          clear hmv hwr2 hwr B c0
          go_wp2
          (try simp only [Exit.inBlock, Exit.then]); refine bodyPost_ret (results_none rfl _ _ _) rfl ?_
          rw [← HB.out, ← HM.out]
          exact ⟨rfl, hf⟩

end Go.Proofs

/- VG, part 62: sort.symMerge_func: one element on the right. -/
namespace Go.Proofs
open Go.Shelf Go.RowKit Go.Lib Go.Sort
set_option linter.unusedVariables false
variable {P : Program} {ρ : Ren} {α : Type} [Inhabited α]

set_option maxHeartbeats 3200000 in
set_option maxRecDepth 1000000 in
theorem vgSymRight (L : LaysGt.n30 P ρ) {enc : α → List Value} {k : Nat} (hk : ∀ x, (enc x).length = k) (lt : α → α → Bool) {g : Nat} {lb : Array Value} {sf : Nat} {sb : Array Value} {blk off : Nat} (a m b : Nat) {d : Array α} {w : World}
    (eg : ∀ args w, (callFunc g args).run P w = .ok (.enter g args) w) (hless : LessReadsK P g lb enc k lt blk off d.size w) (hswap : SwapSwapsK P sf sb enc k blk off d.size) (hH : HoldsK enc k w blk off d) (hblk : blk < w.heap.size)
    (ham : a + 1 < m) (hmb : m < b) (hmb2 : b ≤ m + 1) (hb : b ≤ d.size) (hsz : d.size < 4611686018427387904) :
    Calls P (ρ.f 30) #[.agg #[.func (.func g) #[] lb, .func (.func sf) #[] sb], .int .i64 a, .int .i64 m, .int .i64 b] w fun e w' => e = .returned (.tuple #[]) ∧
      ∃ n os, w' = sortWorldK enc k w blk off n (moveDown d m (bsr (fun h => !lt d[m]! d[h]!) a m)) os := by
  have mixed := L.mixed; have t0 := L.t0; have a0 := L.a0; have z0 := L.z0; have v0 := L.v0; have t3 := L.t3; have a3 := L.a3; have z3 := L.z3; have v3 := L.v3; have t4 := L.t4; have a4 := L.a4; have z4 := L.z4; have v4 := L.v4; have t26 := L.t26; have a26 := L.a26; have z26 := L.z26; have v26 := L.v26; have t38 := L.t38; have a38 := L.a38; have z38 := L.z38; have v38 := L.v38; have t42 := L.t42; have a42 := L.a42; have z42 := L.z42; have v42 := L.v42; have t47 := L.t47; have a47 := L.a47; have z47 := L.z47; have v47 := L.v47
  have u42 := run_underlying L.t42
  obtain ⟨B, hstart⟩ := boxed_of (t := ρ.t 42) hk hless hswap hH hblk
  clear hless hswap hH
  generalize hW1 : w.alloc (.cells #[.func (.func g) #[] lb, .func (.func sf) #[] sb] (ρ.t 42)) = W1 at *
  have q1 : ((m : Int) - (a : Int) == 1) = false := by rw [beq_eq_false_iff_ne]; omega
  have q2 : ((b : Int) - (m : Int) == 1) = true := by rw [beq_iff_eq]; omega
  go_enter L.f30, BodyGt.n30_ntmps ρ
  go_wp2
  go_loopg [12, 13] (b - a) (fun kx s8 s9 wr => ∃ (i j n : Nat) (os : Array Obj), s8 = .int .i64 i ∧ s9 = .int .i64 j ∧ a ≤ i ∧ i ≤ j ∧ j ≤ m ∧ j - i ≤ kx ∧ wr = sortWorldK enc k W1 blk off n d os ∧
    bsr (fun h => !lt d[m]! d[h]!) i j = bsr (fun h => !lt d[m]! d[h]!) a m)
  case atStart => exact ⟨a, m, 0, #[], rfl, rfl, by omega, by omega, by omega, by omega, hstart.symm, rfl⟩
  case round =>
    obtain ⟨i, j, n, os, rfl, rfl, hai, hij, hjb, hkx, hwr, hbs⟩ := hrel
    have c0 := B.c0 n d os
    have c1 := B.c1 n d os
    rw [← hwr] at c0 c1
    by_cases hlt : i < j
    · have hl := B.less n d os rfl m ((i + j) / 2) (by omega) (by omega)
      rw [← hwr] at hl
      rw [bsr, dif_pos hlt] at hbs
      have HB : Hid _ := hbs
      clear hwr hbs B
      cases hv : lt d[m]! d[(i + j) / 2]! with
      | false =>
        rw [hv] at hl HB
        go_wp2_with (go_at_fn g; refine hl.mono ?_; rintro e w' ⟨rfl, q, rfl⟩)
        go_roundg (j - ((i + j) / 2 + 1))
        case measure => omega
        case rel => exact ⟨(i + j) / 2 + 1, j, n + q, os, by go_num, rfl, by omega, by omega, by omega, Nat.le_refl _, rfl, HB.out⟩
      | true =>
        rw [hv] at hl HB
        go_wp2_with (go_at_fn g; refine hl.mono ?_; rintro e w' ⟨rfl, q, rfl⟩)
        go_roundg ((i + j) / 2 - i)
        case measure => omega
        case rel => exact ⟨i, (i + j) / 2, n + q, os, rfl, by go_num, by omega, by omega, by omega, Nat.le_refl _, rfl, HB.out⟩
    · obtain rfl : i = j := by omega
      rw [bsr, dif_neg hlt] at hbs
      have HB : Hid _ := hbs
      clear hbs
      go_wp2
      go_loopg [15] (m - i) (fun kx s11 wr2 => ∃ (c n : Nat) (X : Array α) (os : Array Obj), s11 = .int .i64 c ∧ i ≤ c ∧ c ≤ m ∧ c - i ≤ kx ∧ X.size = d.size ∧ wr2 = sortWorldK enc k W1 blk off n X os ∧
        moveDown X c i = moveDown d m i)
      case atStart => exact ⟨m, n, d, os, rfl, by omega, by omega, by omega, rfl, (by first | exact hwr | rfl), rfl⟩
      case round =>
        obtain ⟨c, n2, X, os2, rfl, hac, hci, hkx2, hX, hwr2, hmv⟩ := hrel
        have c1 := B.c1 n2 X os2
        rw [← hwr2] at c1
        by_cases hlt2 : i < c
        · have hs := B.swap n2 X os2 hX c (c - 1) (by omega) (by omega)
          rw [← hwr2, show (((c - 1 : Nat) : Int)) = (c : Int) - 1 by omega] at hs
          rw [moveDown, dif_pos hlt2] at hmv
          have HM : Hid _ := hmv
          clear hmv hwr2 hwr B c0
          go_wp2
          go_roundg (c - 1 - i)
          case measure => omega
          case rel => exact ⟨c - 1, n2, _, os2, by congr 1; omega, by omega, by omega, Nat.le_refl _, by rw [size_swp]; exact hX, rfl, HM.out⟩
        · rw [moveDown, dif_neg hlt2] at hmv
          have HM : Hid _ := hmv
          have hf := B.fin n2 X os2
          rw [← hwr2] at hf
          clear hmv hwr2 hwr B c0
          go_wp2
          (try simp only [Exit.inBlock, Exit.then]); refine bodyPost_ret (results_none rfl _ _ _) rfl ?_
          rw [← HB.out, ← HM.out]
          exact ⟨rfl, hf⟩

end Go.Proofs

/- VG, part 63: sort.symMerge_func, whole. -/
namespace Go.Proofs
open Go.Shelf Go.RowKit Go.Lib Go.Sort
set_option linter.unusedVariables false
variable {P : Program} {ρ : Ren} {α : Type} [Inhabited α]

def symStart (lt : α → α → Bool) (d : Array α) (a m b : Nat) : Nat :=
  bsr (fun c => !lt d[(a + b) / 2 + m - 1 - c]! d[c]!) (if (a + b) / 2 < m then (a + b) / 2 + m - b else a) (if (a + b) / 2 < m then (a + b) / 2 else m)
def symRot (lt : α → α → Bool) (d : Array α) (a m b : Nat) : Array α :=
  if symStart lt d a m b < m ∧ m < (a + b) / 2 + m - symStart lt d a m b then rotR m d (m - symStart lt d a m b) ((a + b) / 2 + m - symStart lt d a m b - m) else d

/-- Two sorted rows [a, m) and [m, b) are merged in place. -/
def symM (lt : α → α → Bool) (d : Array α) (a m b : Nat) : Array α :=
  if m ≤ a + 1 then moveUp d a (bsr (fun h => lt d[h]! d[a]!) m b - 1)
  else if b ≤ m + 1 then moveDown d m (bsr (fun h => !lt d[m]! d[h]!) a m)
  else
    let s := symStart lt d a m b
    let d2 := if h : a < s ∧ s < (a + b) / 2 then symM lt (symRot lt d a m b) a s ((a + b) / 2) else symRot lt d a m b
    if h : (a + b) / 2 < (a + b) / 2 + m - s ∧ (a + b) / 2 + m - s < b then symM lt d2 ((a + b) / 2) ((a + b) / 2 + m - s) b else d2
termination_by b - a
decreasing_by all_goals omega

theorem symStart_le {lt : α → α → Bool} {d : Array α} {a m b : Nat} (ham : a < m) (hmb : m < b) :
    a ≤ symStart lt d a m b ∧ symStart lt d a m b ≤ m ∧ symStart lt d a m b ≤ (a + b) / 2 ∧ (a + b) / 2 + m - b ≤ symStart lt d a m b := by
  unfold symStart
  split
  · have := bsr_le (fun c => !lt d[(a + b) / 2 + m - 1 - c]! d[c]!) ((a + b) / 2 + m - b) ((a + b) / 2) (by omega)
    omega
  · have := bsr_le (fun c => !lt d[(a + b) / 2 + m - 1 - c]! d[c]!) a m (by omega)
    omega

theorem size_symRot (lt : α → α → Bool) (d : Array α) (a m b : Nat) : (symRot lt d a m b).size = d.size := by
  unfold symRot; split
  · rw [size_rotR]
  · rfl

theorem size_symM (lt : α → α → Bool) : ∀ (N : Nat) (d : Array α) (a m b : Nat), b - a ≤ N → (symM lt d a m b).size = d.size
  | N, d, a, m, b, h => by
    rw [symM]
    split
    · rw [size_moveUp]
    split
    · rw [size_moveDown]
    cases N with
    | zero => 
      dsimp only
      split
      · rename_i h1; omega
      · split
        · rename_i h1; omega
        · rw [size_symRot]
    | succ N =>
      have key : (if h : a < symStart lt d a m b ∧ symStart lt d a m b < (a + b) / 2 then symM lt (symRot lt d a m b) a (symStart lt d a m b) ((a + b) / 2) else symRot lt d a m b).size = d.size := by
        split
        · rw [size_symM lt N _ _ _ _ (by omega), size_symRot]
        · rw [size_symRot]
      dsimp only
      split
      · rw [size_symM lt N _ _ _ _ (by omega)]; exact key
      · exact key

def symTwo (lt : α → α → Bool) (d : Array α) (a m b : Nat) : Array α :=
  if a < symStart lt d a m b ∧ symStart lt d a m b < (a + b) / 2 then symM lt (symRot lt d a m b) a (symStart lt d a m b) ((a + b) / 2) else symRot lt d a m b

theorem symM_rec {lt : α → α → Bool} {d : Array α} {a m b : Nat} (hl : ¬ m ≤ a + 1) (hr : ¬ b ≤ m + 1) :
    symM lt d a m b = if (a + b) / 2 < (a + b) / 2 + m - symStart lt d a m b ∧ (a + b) / 2 + m - symStart lt d a m b < b then symM lt (symTwo lt d a m b) ((a + b) / 2) ((a + b) / 2 + m - symStart lt d a m b) b else symTwo lt d a m b := by
  rw [symM, if_neg hl, if_neg hr]
  simp only [dite_eq_ite]
  rfl

theorem size_symTwo (lt : α → α → Bool) (d : Array α) (a m b : Nat) : (symTwo lt d a m b).size = d.size := by
  unfold symTwo; split
  · rw [size_symM lt _ _ _ _ _ (Nat.le_refl _), size_symRot]
  · rw [size_symRot]

end Go.Proofs
