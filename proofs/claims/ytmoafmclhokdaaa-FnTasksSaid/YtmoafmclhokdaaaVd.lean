/- VG, joined: an evaluator of the code over typed values, and its soundness, for any program. -/
import Derived.Test.YtmoafmclhokdaaaVc
import Derived.KernelRfl
import Derived.Lib.Join
import Derived.Below
set_option linter.unusedSimpArgs false
set_option linter.unusedVariables false
/- VG, part 69: a region that strikes an element out of a row: l = append(l[:i], l[i+1:]...). -/
namespace Vg
open Go

section
variable {P : Program} {C : Cx} {w0 : World} {c0 : C0} {U : Nat → Prop} {E : Env} {a : Act} {w : World} {G : Gh} {Q : Exit → Act → World → Prop}

/-- The row behind the stroke. -/
theorem del_mem {e : Ty} {l : List e.den} {b off cap : Nat} {c : Array Value} {el : TypeId} {Bs : List Nat} {i : Nat} (hi : i < l.length) (hh : w.heap[b]? = some (.cells c el (0, 0)))
    (hsz : off + cap * e.sz ≤ c.size) (hcap : l.length ≤ cap) (hl : RepL (Rep w e) l ((c.toList.drop off).take (l.length * e.sz)) Bs) (hn : (b :: Bs).Nodup) :
    ∃ Bs', RepS (w.setCells b (off + i * e.sz) (((c.toList.drop off).take (l.length * e.sz)).drop ((i + 1) * e.sz))) e.sz (Rep (w.setCells b (off + i * e.sz) (((c.toList.drop off).take (l.length * e.sz)).drop ((i + 1) * e.sz))) e)
      (l.take i ++ l.drop (i + 1)) (.slice (some ⟨b, off, none⟩) (l.length - 1) cap) (b :: Bs') ∧ (∀ x ∈ Bs', x ∈ Bs) ∧ (b :: Bs').Nodup := by
  have hx : l[i]? = some l[i] := List.getElem?_eq_getElem hi
  obtain ⟨B1, Bx, B2, rfl, _, h1, h2⟩ := RepL.get (sz := e.sz) (fun x c B h => Rep.len h) hl hx
  generalize hcs : (c.toList.drop off).take (l.length * e.sz) = cs at *
  have hm1 : i * e.sz + e.sz = (i + 1) * e.sz := by rw [Nat.add_mul, Nat.one_mul]
  have hm2 : (i + 1) * e.sz ≤ l.length * e.sz := Nat.mul_le_mul_right _ hi
  have hm3 : l.length * e.sz ≤ cap * e.sz := Nat.mul_le_mul_right _ hcap
  have hcl : cs.length = l.length * e.sz := by rw [← hcs]; simp; omega
  generalize hys : cs.drop ((i + 1) * e.sz) = ys at *
  have hyl : ys.length = l.length * e.sz - (i + 1) * e.sz := by rw [← hys]; simp [hcl]
  have hrow := setCells_row b (el := el) ys (off + i * e.sz) w c hh (by omega)
  rw [List.nodup_cons] at hn
  simp only [List.mem_append, not_or, List.append_assoc] at hn
  have hne : ∀ z ∈ B1 ++ B2, (w.setCells b (off + i * e.sz) ys).heap[z]? = w.heap[z]? := by
    intro z hz
    refine setCells_other b _ _ w z (fun e => ?_)
    subst e
    rcases List.mem_append.1 hz with h | h
    · exact hn.1.1 h
    · exact hn.1.2.2 h
  refine ⟨B1 ++ B2, .inr ⟨b, off, cap, _, el, (0, 0), B1 ++ B2, ?_, ?_, hrow, ?_, rfl, ?_⟩, ?_, ?_⟩
  · simp; omega
  · simp; omega
  · simp; omega
  · have hlen : (l.take i ++ l.drop (i + 1)).length * e.sz = i * e.sz + ys.length := by
      have : (l.take i ++ l.drop (i + 1)).length = i + (l.length - (i + 1)) := by simp; omega
      rw [this, Nat.add_mul, hyl, Nat.sub_mul]
    have hcells : ((c.toList.take (off + i * e.sz) ++ ys ++ c.toList.drop (off + i * e.sz + ys.length)).drop off).take ((l.take i ++ l.drop (i + 1)).length * e.sz) = cs.take (i * e.sz) ++ ys := by
      have htl : (c.toList.take (off + i * e.sz)).length = off + i * e.sz := by simp; omega
      have e1 : (c.toList.take (off + i * e.sz)).drop off = cs.take (i * e.sz) := by
        rw [← hcs, List.take_take, Nat.min_eq_left (by omega), List.drop_take]
        congr 1; omega
      rw [List.append_assoc, List.drop_append_of_le_length (by omega), e1, ← List.append_assoc, hlen]
      have hl2 : (cs.take (i * e.sz) ++ ys).length = i * e.sz + ys.length := by rw [List.length_append, List.length_take, hcl, Nat.min_eq_left (by omega)]
      rw [← hl2, List.take_left]
    have hr := RepL.append h1 h2
    have := RepL.world hne hr
    rw [hcells]
    exact this
  · intro x hx
    rcases List.mem_append.1 hx with h | h
    · simp [h]
    · simp [h]
  · rw [List.nodup_cons]
    refine ⟨fun h => ?_, ?_⟩
    · rcases List.mem_append.1 h with h | h
      · exact hn.1.1 h
      · exact hn.1.2.2 h
    · have h2 := hn.2
      rw [List.nodup_append] at h2 ⊢
      obtain ⟨q1, q2, q3⟩ := h2
      rw [List.nodup_append] at q2
      exact ⟨q1, q2.2.1, fun a ha b hb => q3 a ha b (List.mem_append_right _ hb)⟩

/-- The surroundings behind the stroke. -/
theorem Inv.del (hI : Inv w0 c0 U E a w G) {e : Ty} {l : List e.den} {v : Value} {m : M} {ts : List Nat} (hr : RowOk w G e l v m) (ho : m.own = some ts) (hts : ∀ c ∈ ts, 3 ≤ c ∧ Good U G c)
    {i : Nat} (hi : i < l.length) {tk : Nat} (h3 : 3 ≤ tk) (hU : ¬ U tk) :
    ∃ b off cap c el, v = .slice (some ⟨b, off, none⟩) l.length cap ∧ l.length ≤ cap ∧ w.heap[b]? = some (.cells c el (0, 0)) ∧ off + cap * e.sz ≤ c.size ∧ (∀ u ∈ (c.toList.drop off).take (l.length * e.sz), u.oneCell' = true) ∧
      ∃ G', Inv w0 c0 (fun u => U u ∨ u = tk) (E.kill ts) a (w.setCells b (off + i * e.sz) (((c.toList.drop off).take (l.length * e.sz)).drop ((i + 1) * e.sz))) G' ∧
        RowOk (w.setCells b (off + i * e.sz) (((c.toList.drop off).take (l.length * e.sz)).drop ((i + 1) * e.sz))) G' e (l.take i ++ l.drop (i + 1)) (.slice (some ⟨b, off, none⟩) (l.length - 1) cap) (.row tk [tk] true) ∧ G'.bx tk = false := by
  obtain ⟨B, hB, hn, hc⟩ := hr.own ho
  rcases hB with ⟨_, rfl, _⟩ | ⟨b, off, cap, c, el, fz, Bs, hv, hcap, hb, hsz, rfl, hl⟩
  · simp at hi
  · have hcb := hc b (by simp)
    obtain ⟨c', el', hf⟩ := hI.fresh b (hts _ hcb).1
    rw [hf] at hb
    simp only [Option.some.injEq, Obj.cells.injEq] at hb
    obtain ⟨rfl, rfl, rfl⟩ := hb
    obtain ⟨Bs', r1, r2, r3⟩ := del_mem hi hf hsz hcap hl hn
    refine ⟨b, off, cap, c', el', hv, hcap, hf, hsz, RepL.cell1 hl, G.give ts tk (.slice (some ⟨b, off, none⟩) (l.length - 1) cap), ?_, ⟨h3, by simp [Gh.give], b :: Bs', r1, fun b2 Bs2 h2 => ?_⟩, by simp [Gh.give]⟩
    · have hm2 : (i + 1) * e.sz ≤ l.length * e.sz := Nat.mul_le_mul_right _ hi
      have hm1 : i * e.sz + e.sz = (i + 1) * e.sz := by rw [Nat.add_mul, Nat.one_mul]
      have hm3 : l.length * e.sz ≤ cap * e.sz := Nat.mul_le_mul_right _ hcap
      generalize hys : ((c'.toList.drop off).take (l.length * e.sz)).drop ((i + 1) * e.sz) = ys at *
      have hyl : ys.length = l.length * e.sz - (i + 1) * e.sz := by rw [← hys]; simp; omega
      have hrow := setCells_row b (el := el') ys (off + i * e.sz) w c' hf (by omega)
      refine (hI.kill ts).change (ts := ts) (kill_hc hI hts) (fun z _ hz => ⟨setCells_other b _ _ w z (fun e => hz (e ▸ hcb)), by simp [Gh.give, hz]⟩) (fun u hu => ?_) (fun _ h => .inl h) (fun z hz => ?_)
        (fun z hz => ?_) (fun z hz => ?_) (fun z hz hc1 => ?_) (fun z hz => ?_) (by rw [setCells_size]; exact Nat.le_refl _)
        (setCells_env b _ _ w).1 (setCells_env b _ _ w).2.1 (setCells_env b _ _ w).2.2
      · have : u ≠ tk := fun e => hU (e ▸ hu)
        simp [Gh.give, this]
      · simp only [Gh.give] at hz ⊢
        split at hz
        · right; rw [if_pos (by assumption)]
        · left; rw [if_neg (by assumption)]; exact hI.colU z hz
      · rw [setCells_size]
        simp only [Gh.give] at hz
        split at hz
        · rename_i h; exact hI.lt z (by have := (hts _ h).1; omega)
        · exact hI.lt z hz
      · have hz3 : 3 ≤ G.col z := by
          simp only [Gh.give] at hz
          split at hz
          · rename_i h; exact (hts _ h).1
          · exact hz
        by_cases e1 : z = b
        · subst e1; exact ⟨_, _, hrow⟩
        · rw [setCells_other b _ _ w z e1]; exact hI.fresh z hz3
      · have hf := hI.frame z hz hc1
        have hnot : G.col z ∉ ts := fun h => by have := (hts _ h).1; omega
        refine ⟨(if_neg hnot).trans hf.1, ?_⟩
        rw [setCells_other b _ _ w z (fun e => hnot (e ▸ hcb))]
        exact hf.2
      · simp only [Gh.give] at hz
        split at hz
        · omega
        · exact hz
    · cases h2
      refine ⟨by simp [Gh.give, hcb], (List.nodup_cons.1 r3).1, fun x hx => ?_, fun _ => (List.nodup_cons.1 r3).2⟩
      simp [Gh.give, hc x (List.mem_cons_of_mem _ (r2 x hx))]

end
end Vg

/- VG, part 70: the region that strikes an element out of a row, whole. -/
namespace Vg
open Go

def mvOf (o : Oper) : Option (Nat × Nat) :=
  match o.guard, o.op, o.dst with
  | none, .move (.tmp x), some d => some (d, x)
  | _, _, _ => none
def asgOf (o : Oper) : Option (Nat × Nat) :=
  match o.guard, o.op, o.dst with
  | none, .assign (.tmp x), some d => some (d, x)
  | _, _, _ => none
def slHi (o : Oper) : Option (TypeId × Nat × Nat × Nat) :=
  match o.guard, o.op, o.dst with
  | none, .slice t (.tmp x) none (some (.tmp h)) none, some d => some (t, d, x, h)
  | _, _, _ => none
def slLo (o : Oper) : Option (TypeId × Nat × Nat × Nat) :=
  match o.guard, o.op, o.dst with
  | none, .slice t (.tmp x) (some (.tmp h)) none none, some d => some (t, d, x, h)
  | _, _, _ => none
def incOf (o : Oper) : Option (TypeId × Nat × Nat) :=
  match o.guard, o.op, o.dst with
  | none, .binOp .add t (.tmp x) (.const (.int .i64 1)) _, some d => some (t, d, x)
  | _, _, _ => none
def appOf (o : Oper) : Option (TypeId × Nat × Nat × Nat) :=
  match o.guard, o.op, o.dst with
  | none, .call c, some d => (match c.callee, c.args.toList, c.argTypes.toList with
    | .builtin .append, [.tmp x, .tmp y], [t, u] => (match decide (t = u) with | true => some (t, d, x, y) | false => none)
    | _, _, _ => none)
  | _, _, _ => none

structure DelD where
  t : TypeId
  ti : TypeId
  s : Nat
  j : Nat
  d0 : Nat
  d1 : Nat
  d2 : Nat
  d3 : Nat
  d4 : Nat
  d5 : Nat
  d6 : Nat
  d7 : Nat

def DelD.tmps (d : DelD) : List Nat := [d.s, d.j, d.d0, d.d1, d.d2, d.d3, d.d4, d.d5, d.d6, d.d7]

def DelD.outs (d : DelD) : List Nat := [d.s, d.d0, d.d1, d.d2, d.d3, d.d4, d.d5, d.d6, d.d7]

def lst (n : Nat) : Nat → Array Bool
  | 0 => Array.replicate n false
  | i + 1 => (lst n i).setIfInBounds i true

/-- The steps may be taken in the order of the text. -/
def delOrd (ops : Array Oper) : Bool :=
  Region.noSelect ops && (List.range 7).all (fun i => Region.free .any ops (lst 9 i) i && (Region.ready .any ops (lst 9 i)).contains i) &&
  decide (Region.ready .any ops (lst 9 7) = [7]) && decide (Region.ready .any ops (lst 9 8) = [8]) && decide (Region.ready .any ops (lst 9 9) = [])

def delOf (ops : List Oper) : Option DelD :=
  match ops with
  | [o0, o1, o2, o3, o4, o5, o6, o7, o8] =>
    match mvOf o0, mvOf o1, slHi o2, mvOf o3, mvOf o4, incOf o5, slLo o6, appOf o7, asgOf o8 with
    | some (d0, s), some (d1, j), some (t, d2, x2, h2), some (d3, s3), some (d4, j4), some (ti, d5, x5), some (t6, d6, x6, l6), some (t7, d7, x7, y7), some (s8, x8) =>
      match decide (x2 = d0 ∧ h2 = d1 ∧ s3 = s ∧ j4 = j ∧ x5 = d4 ∧ x6 = d3 ∧ l6 = d5 ∧ x7 = d2 ∧ y7 = d6 ∧ x8 = d7 ∧ s8 = s ∧ t6 = t ∧ t7 = t ∧ ([s, j, d0, d1, d2, d3, d4, d5, d6, d7] : List Nat).Nodup) && delOrd #[o0, o1, o2, o3, o4, o5, o6, o7, o8] with
      | true => some ⟨t, ti, s, j, d0, d1, d2, d3, d4, d5, d6, d7⟩
      | false => none
    | _, _, _, _, _, _, _, _, _ => none
  | _ => none

section
variable {P : Program} {C : Cx} {w0 : World} {c0 : C0} {U : Nat → Prop} {E : Env} {a : Act} {w : World} {G : Gh} {Q : Exit → Act → World → Prop}

theorem mvOf_spec {o : Oper} {d x : Nat} (h : mvOf o = some (d, x)) : o.guard = none ∧ o.op = .move (.tmp x) ∧ o.dst = some d := by
  unfold mvOf at h
  split at h
  · rename_i h1 h2 h3; cases h; exact ⟨h1, h2, h3⟩
  · cases h
theorem asgOf_spec {o : Oper} {d x : Nat} (h : asgOf o = some (d, x)) : o.guard = none ∧ o.op = .assign (.tmp x) ∧ o.dst = some d := by
  unfold asgOf at h
  split at h
  · rename_i h1 h2 h3; cases h; exact ⟨h1, h2, h3⟩
  · cases h
theorem slHi_spec {o : Oper} {t : TypeId} {d x y : Nat} (h : slHi o = some (t, d, x, y)) : o.guard = none ∧ o.op = .slice t (.tmp x) none (some (.tmp y)) none ∧ o.dst = some d := by
  unfold slHi at h
  split at h
  · rename_i h1 h2 h3; cases h; exact ⟨h1, h2, h3⟩
  · cases h
theorem slLo_spec {o : Oper} {t : TypeId} {d x y : Nat} (h : slLo o = some (t, d, x, y)) : o.guard = none ∧ o.op = .slice t (.tmp x) (some (.tmp y)) none none ∧ o.dst = some d := by
  unfold slLo at h
  split at h
  · rename_i h1 h2 h3; cases h; exact ⟨h1, h2, h3⟩
  · cases h
theorem incOf_spec {o : Oper} {t : TypeId} {d x : Nat} (h : incOf o = some (t, d, x)) : o.guard = none ∧ (∃ u, o.op = .binOp .add t (.tmp x) (.const (.int .i64 1)) u) ∧ o.dst = some d := by
  unfold incOf at h
  split at h
  · rename_i h1 h2 h3; cases h; exact ⟨h1, ⟨_, h2⟩, h3⟩
  · cases h
theorem appOf_spec {o : Oper} {t : TypeId} {d x y : Nat} (h : appOf o = some (t, d, x, y)) : o.guard = none ∧ (∃ c : Call, o.op = .call c ∧ c.callee = .builtin .append ∧ c.args = #[.tmp x, .tmp y] ∧ c.argTypes = #[t, t]) ∧ o.dst = some d := by
  unfold appOf at h
  split at h
  · rename_i c d' h1 h2 h3
    split at h
    · rename_i x' y' t' u' hc ha ht
      split at h
      · rename_i e
        simp only [decide_eq_true_eq] at e
        cases h
        subst e
        exact ⟨h1, ⟨c, h2, hc, Array.ext' (by simpa using ha), Array.ext' (by simpa using ht)⟩, h3⟩
      · cases h
    · cases h
  · cases h

theorem run_mv {o : Oper} {x : Nat} (h : o.op = .move (.tmp x)) : (execOp a.eval o).run P w = .ok (.value (a.tmps.getD x undef)) w := by
  simp only [execOp, h]; rfl
theorem run_asg {o : Oper} {x : Nat} (h : o.op = .assign (.tmp x)) : (execOp a.eval o).run P w = .ok (.value (a.tmps.getD x undef)) w := by
  simp only [execOp, h]; rfl

theorem put_at {d s : Nat} {v : Value} (h : d < a.tmps.size) : (a.put (some d) v).tmps.getD s undef = if s = d then v else a.tmps.getD s undef := by
  rw [tmps_put a (some d) v s (by rintro x ⟨⟩; exact h)]
  by_cases e : s = d
  · subst e; rw [if_pos rfl, if_pos rfl]
  · rw [if_neg (by simpa using e), if_neg e]

theorem run_cutHi {o : Oper} {t el : TypeId} {e : Ty} {x y n cap b off : Nat} {i : Nat} (hu : P.underlying t = some (.slice el)) (hT : TyFacts P el e) (h : o.op = .slice t (.tmp x) none (some (.tmp y)) none)
    (hx : a.tmps.getD x undef = .slice (some ⟨b, off, none⟩) n cap) (hy : a.tmps.getD y undef = .int .i64 i) (h1 : i ≤ cap) : (execOp a.eval o).run P w = .ok (.value (.slice (some ⟨b, off, none⟩) i cap)) w := by
  simp only [execOp, h]
  refine run_v ?_
  have hx' : a.eval (.tmp x) = .slice (some ⟨b, off, none⟩) n cap := hx
  have hy' : a.eval (.tmp y) = .int .i64 i := hy
  have := run_bound (P := P) (w := w) (k := .i64) (i := (i : Int)) (y := cap) (code := .sliceAcap) (by omega) (by omega)
  rw [hx']
  simp only [Int.toNat_natCast] at this
  by_cases hc : cap = 0
  · rw [hc] at this
    simp [Instr.sliceAt, Instr.slice, Instr.sliceBounds, run_underlying hu, run_sizeOf' hT, hy', this, hc]
  · simp [Instr.sliceAt, Instr.slice, Instr.sliceBounds, run_underlying hu, run_sizeOf' hT, hy', this, Addr.add_lit]

theorem run_cutLo {o : Oper} {t el : TypeId} {e : Ty} {x y n cap b off : Nat} {i : Nat} (hu : P.underlying t = some (.slice el)) (hT : TyFacts P el e) (h : o.op = .slice t (.tmp x) (some (.tmp y)) none none)
    (hx : a.tmps.getD x undef = .slice (some ⟨b, off, none⟩) n cap) (hy : a.tmps.getD y undef = .int .i64 i) (h1 : i ≤ n) : (execOp a.eval o).run P w = .ok (.value (.slice (some ⟨b, if cap = i then off else off + i * e.sz, none⟩) (n - i) (cap - i))) w := by
  simp only [execOp, h]
  refine run_v ?_
  have hx' : a.eval (.tmp x) = .slice (some ⟨b, off, none⟩) n cap := hx
  have hy' : a.eval (.tmp y) = .int .i64 i := hy
  have := run_bound (P := P) (w := w) (k := .i64) (i := (i : Int)) (y := n) (code := .sliceB) (by omega) (by omega)
  rw [hx']
  simp only [Int.toNat_natCast] at this
  by_cases hc : cap = i
  · subst hc
    simp [Instr.sliceAt, Instr.slice, Instr.sliceBounds, run_underlying hu, run_sizeOf' hT, hy', this]
  · simp [Instr.sliceAt, Instr.slice, Instr.sliceBounds, run_underlying hu, run_sizeOf' hT, hy', this, hc, Addr.add_lit]

theorem run_inc {o : Oper} {t u : TypeId} {x : Nat} {i : Nat} (h : o.op = .binOp .add t (.tmp x) (.const (.int .i64 1)) u) (hx : a.tmps.getD x undef = .int .i64 i) (hi : i < 4294967296) :
    (execOp a.eval o).run P w = .ok (.value (.int .i64 ((i + 1 : Nat) : Int))) w := by
  simp only [execOp, h]
  refine run_v ?_
  have hx' : a.eval (.tmp x) = .int .i64 i := hx
  have h1 : a.eval (.const (.int .i64 1)) = .int .i64 1 := rfl
  rw [hx', h1]
  have hw : IntKind.i64.wrap ((i : Int) + 1) = ((i + 1 : Nat) : Int) := by
    simp only [IntKind.wrap, IntKind.signed, IntKind.bits]
    simp
    omega
  have hgd : ∀ v, eqGuard .add t (.tmp x) (.const (.int .i64 1)) (.int .i64 i) v = pure () := fun v => eqGuard_at_int ..
  simp [hgd, binOp, Op.intArith, hw]


theorem slot_int' (hI : Inv w0 c0 U E a w G) {j : Nat} {n : Int} {sh : Sh} (h : E.get j = .d ⟨.int .i64, n, sh⟩) : a.tmps.getD j undef = .int .i64 n := by
  have hs := hI.slots j
  have h' : E.s.getD j .no = .d ⟨.int .i64, n, sh⟩ := h
  rw [h'] at hs
  obtain ⟨cs, h1, h2⟩ := hs
  cases sh with
  | leaf => rw [h1, show cs = _ from h2]; rfl
  | sl m => exact h2.elim
  | pair a b => exact h2.elim

theorem Inv.putNo' (hI : Inv w0 c0 U E a w G) (d : Option Nat) (v : Value) : Inv w0 c0 U (E.set d .no) (a.put d v) w G :=
  hI.put d (sv := .no) trivial (by simp [SV.sc]) (by simp [SV.bt]) (by simp [SV.rt]) (by rintro _ _ ⟨⟩)

theorem delOf_spec {ops : Array Oper} {d : DelD} (h : delOf ops.toList = some d) : ∃ o0 o1 o2 o3 o4 o5 o6 o7 o8, ops = #[o0, o1, o2, o3, o4, o5, o6, o7, o8] ∧
    mvOf o0 = some (d.d0, d.s) ∧ mvOf o1 = some (d.d1, d.j) ∧ slHi o2 = some (d.t, d.d2, d.d0, d.d1) ∧ mvOf o3 = some (d.d3, d.s) ∧ mvOf o4 = some (d.d4, d.j) ∧ incOf o5 = some (d.ti, d.d5, d.d4) ∧
    slLo o6 = some (d.t, d.d6, d.d3, d.d5) ∧ appOf o7 = some (d.t, d.d7, d.d2, d.d6) ∧ asgOf o8 = some (d.s, d.d7) ∧ d.tmps.Nodup ∧ delOrd ops = true := by
  unfold delOf at h
  split at h
  · rename_i o0 o1 o2 o3 o4 o5 o6 o7 o8 hops
    split at h
    · rename_i h0 h1 h2 h3 h4 h5 h6 h7 h8
      split at h
      · rename_i hc
        simp only [Bool.and_eq_true, decide_eq_true_eq] at hc
        obtain ⟨⟨rfl, rfl, rfl, rfl, rfl, rfl, rfl, rfl, rfl, rfl, rfl, rfl, rfl, hn⟩, ho⟩ := hc
        cases h
        have he : ops = #[o0, o1, o2, o3, o4, o5, o6, o7, o8] := Array.ext' hops
        exact ⟨o0, o1, o2, o3, o4, o5, o6, o7, o8, he, h0, h1, h2, h3, h4, h5, h6, h7, h8, hn, by rw [he]; exact ho⟩
      · cases h
    · cases h
  · cases h

theorem setCells_drawn (b : Nat) : ∀ (vs : List Value) (o n : Nat) (w : World), ({ w with drawn := n } : World).setCells b o vs = { w.setCells b o vs with drawn := n }
  | [], _, _, _ => rfl
  | v :: r, o, n, w => by
    rw [World.setCells, World.setCells, ← setCells_drawn b r (o + 1) n]
    rfl

/-- The surroundings behind the region. -/
def delE (E : Env) (d : DelD) (ts : List Nat) (tk : Nat) (e : Ty) (l : List e.den) (i : Nat) : Env :=
  ((((((((((E.kill ts).set (some d.d0) .no).set (some d.d1) .no).set (some d.d2) .no).set (some d.d3) .no).set (some d.d4) .no).set (some d.d5) .no).set (some d.d6) .no).set (some d.d7) .no).set (some d.s)
    (.d ⟨.sl e, l.take i ++ l.drop (i + 1), .sl (.row tk [tk] true)⟩))

theorem yields_of {ops : Array Oper} {o : Oper} {v : Value} (hg : o.guard = none) (h : ∀ w, (execOp a.eval o).run P w = .ok (.value v) w) : Go.Yields P ops o v a :=
  .inl ⟨by simp [Region.wanted, hg], h⟩

set_option maxHeartbeats 1000000 in
theorem del_region (hC : CxTy P C) (hm : P.follows .mixedOrders = true) {N : Nat} (hI : Inv w0 c0 (fun u => u < N) E a w G) {ops : Array Oper} {d : DelD} (hd : delOf ops.toList = some d)
    {e : Ty} {l : List e.den} {m : M} {fs : List TypeId} {el : TypeId} (ht : C.tt d.t = some ⟨.sl e, fs, el⟩) (hs : E.s.getD d.s .no = .d ⟨.sl e, l, .sl m⟩) {i : Nat} {sh : Sh} (hj : E.get d.j = .d ⟨.int .i64, (i : Int), sh⟩)
    {ts : List Nat} (ho : m.own = some ts) (hi : i < l.length) (hl : l.length < 4294967296) (hsz : ∀ x ∈ d.tmps, x < E.s.length) {tk : Nat} (h3 : 3 ≤ tk) (hN : N ≤ tk) {id : Nat}
    (hK : ∀ a' w' G', Inv w0 c0 (fun u => u < N ∨ u = tk) (delE E d ts tk e l i) a' w' G' → (∀ x, x ∉ d.outs → a'.tmps.getD x undef = a.tmps.getD x undef) → Q .normal a' w') :
    (Code.region id ops true).wp P Q a w := by
  obtain ⟨o0, o1, o2, o3, o4, o5, o6, o7, o8, rfl, q0, q1, q2, q3, q4, q5, q6, q7, q8, hn, hord⟩ := delOf_spec hd
  obtain ⟨g0, p0, t0⟩ := mvOf_spec q0
  obtain ⟨g1, p1, t1⟩ := mvOf_spec q1
  obtain ⟨g2, p2, t2⟩ := slHi_spec q2
  obtain ⟨g3, p3, t3⟩ := mvOf_spec q3
  obtain ⟨g4, p4, t4⟩ := mvOf_spec q4
  obtain ⟨g5, ⟨u5, p5⟩, t5⟩ := incOf_spec q5
  obtain ⟨g6, p6, t6⟩ := slLo_spec q6
  obtain ⟨g7, ⟨c7, p7, pc, pa, pt⟩, t7⟩ := appOf_spec q7
  obtain ⟨g8, p8, t8⟩ := asgOf_spec q8
  have hT := (hC.tt _ _ ht).2
  obtain ⟨hu, hel⟩ := hT
  have hslot := hI.slots d.s
  have hment := hI.ment d.s
  rw [hs] at hslot hment
  obtain ⟨cs, hmv, hvk⟩ := hslot
  obtain ⟨v, rfl, hrow⟩ := hvk
  have hv : a.tmps.getD d.s undef = v := hmv
  have hjv := slot_int' hI hj
  have hts : ∀ c ∈ ts, 3 ≤ c ∧ Good (fun u => u < N) G c := by
    intro c hc
    have hsub := M.own_sub ho c hc
    have h1 := hment.1 c hsub
    refine ⟨?_, h1⟩
    cases m with
    | row t hs' nd =>
      obtain ⟨k1, k2, k3⟩ := M.own_ge ho
      rcases (k3 c).1 hc with rfl | hc
      · exact hrow.1
      · exact k2 c hc
    | sha hs' =>
      cases hs' with
      | nil => simp [M.own] at ho; subst ho; cases hc
      | cons x y => simp [M.own] at ho
    | nst => simp [M.own] at ho
    | dead => simp [M.own] at ho
  obtain ⟨b, off, cap, c, elx, rfl, hcap, hheap, hszc, h1c, hdel⟩ := hI.del hrow ho hts hi h3 (Nat.not_lt.2 hN)
  obtain ⟨G', hI', hrow', hbx'⟩ := hdel
  change l.length ≤ cap at hcap
  simp only [DelD.tmps, List.nodup_cons, List.mem_cons, List.not_mem_nil, or_false, not_or, List.nodup_nil, and_true] at hn
  obtain ⟨⟨n0_1, n0_2, n0_3, n0_4, n0_5, n0_6, n0_7, n0_8, n0_9⟩, ⟨n1_2, n1_3, n1_4, n1_5, n1_6, n1_7, n1_8, n1_9⟩, ⟨n2_3, n2_4, n2_5, n2_6, n2_7, n2_8, n2_9⟩, ⟨n3_4, n3_5, n3_6, n3_7, n3_8, n3_9⟩, ⟨n4_5, n4_6, n4_7, n4_8, n4_9⟩, ⟨n5_6, n5_7, n5_8, n5_9⟩, ⟨n6_7, n6_8, n6_9⟩, ⟨n7_8, n7_9⟩, n8_9⟩ := hn
  have hlen : a.tmps.size = E.s.length := hI.len
  simp only [DelD.tmps, List.mem_cons, List.not_mem_nil, or_false, forall_eq_or_imp, forall_eq] at hsz
  rw [← hlen] at hsz
  obtain ⟨z0, z1, z2, z3, z4, z5, z6, z7, z8, z9⟩ := hsz
  simp only [delOrd, Bool.and_eq_true, List.all_eq_true, List.mem_range, decide_eq_true_eq] at hord
  obtain ⟨⟨⟨⟨hsel, hfr⟩, hr7⟩, hr8⟩, hr9⟩ := hord
  refine wp_mono (Q := fun ex a w => ex = .normal ∧ Q .normal a w) ?_ (fun ex a w h => by obtain ⟨rfl, h⟩ := h; exact h)
  refine wp_region_any hm ?_
  have hQ : ∀ (v : Value) (o : Oper) c (a : Act) (w : World), (fun (ex : Exit) (a : Act) (w : World) => ex = .normal ∧ Q .normal a w) (.panic c) (a.put o.dst v) w → (fun (ex : Exit) (a : Act) (w : World) => ex = .normal ∧ Q .normal a w) (.panic c) a w :=
    fun v o c a w h => by have := h.1; cases this
  generalize hw1 : ({ w with drawn := w.drawn + 1 } : World) = w1
  show wpAny P .any _ _ 9 (lst 9 0) a w1
  -- 0
  refine wpAny_take (i := 0) (oi := o0) (v := .slice (some ⟨b, off, none⟩) l.length cap) rfl hsel (hfr 0 (by decide)).1 (hfr 0 (by decide)).2 (hQ _ _) (yields_of g0 (fun w => by rw [← hv]; exact run_mv p0)) ?_
  rw [t0]
  generalize ha1 : a.put (some d.d0) (.slice (some ⟨b, off, none⟩) l.length cap) = a1
  have s1 : a1.tmps.size = a.tmps.size := by rw [← ha1, size_put]
  have f1 : ∀ s, a1.tmps.getD s undef = if s = d.d0 then .slice (some ⟨b, off, none⟩) l.length cap else a.tmps.getD s undef := fun s => by rw [← ha1]; exact put_at z2
  -- 1
  refine wpAny_take (i := 1) (oi := o1) (v := .int .i64 i) rfl hsel (hfr 1 (by decide)).1 (hfr 1 (by decide)).2 (hQ _ _) (yields_of g1 (fun w => by
    have := run_mv (P := P) (a := a1) (w := w) p1; rw [f1, if_neg n1_2, hjv] at this; exact this)) ?_
  rw [t1]
  generalize ha2 : a1.put (some d.d1) (.int .i64 i) = a2
  have s2 : a2.tmps.size = a.tmps.size := by rw [← ha2, size_put, s1]
  have f2 : ∀ s, a2.tmps.getD s undef = if s = d.d1 then .int .i64 i else a1.tmps.getD s undef := fun s => by rw [← ha2]; exact put_at (by rw [s1]; exact z3)
  -- 2
  refine wpAny_take (i := 2) (oi := o2) (v := .slice (some ⟨b, off, none⟩) i cap) rfl hsel (hfr 2 (by decide)).1 (hfr 2 (by decide)).2 (hQ _ _) (yields_of g2 (fun w =>
    run_cutHi (n := l.length) hu hel p2 (by rw [f2, if_neg n2_3, f1, if_pos rfl]) (by rw [f2, if_pos rfl]) (by omega))) ?_
  rw [t2]
  generalize ha3 : a2.put (some d.d2) (.slice (some ⟨b, off, none⟩) i cap) = a3
  have s3 : a3.tmps.size = a.tmps.size := by rw [← ha3, size_put, s2]
  have f3 : ∀ s, a3.tmps.getD s undef = if s = d.d2 then .slice (some ⟨b, off, none⟩) i cap else a2.tmps.getD s undef := fun s => by rw [← ha3]; exact put_at (by rw [s2]; exact z4)
  -- 3
  refine wpAny_take (i := 3) (oi := o3) (v := .slice (some ⟨b, off, none⟩) l.length cap) rfl hsel (hfr 3 (by decide)).1 (hfr 3 (by decide)).2 (hQ _ _) (yields_of g3 (fun w => by
    have := run_mv (P := P) (a := a3) (w := w) p3; rw [f3, if_neg n0_4, f2, if_neg n0_3, f1, if_neg n0_2, hv] at this; exact this)) ?_
  rw [t3]
  generalize ha4 : a3.put (some d.d3) (.slice (some ⟨b, off, none⟩) l.length cap) = a4
  have s4 : a4.tmps.size = a.tmps.size := by rw [← ha4, size_put, s3]
  have f4 : ∀ s, a4.tmps.getD s undef = if s = d.d3 then .slice (some ⟨b, off, none⟩) l.length cap else a3.tmps.getD s undef := fun s => by rw [← ha4]; exact put_at (by rw [s3]; exact z5)
  -- 4
  refine wpAny_take (i := 4) (oi := o4) (v := .int .i64 i) rfl hsel (hfr 4 (by decide)).1 (hfr 4 (by decide)).2 (hQ _ _) (yields_of g4 (fun w => by
    have := run_mv (P := P) (a := a4) (w := w) p4; rw [f4, if_neg n1_5, f3, if_neg n1_4, f2, if_neg n1_3, f1, if_neg n1_2, hjv] at this; exact this)) ?_
  rw [t4]
  generalize ha5 : a4.put (some d.d4) (.int .i64 i) = a5
  have s5 : a5.tmps.size = a.tmps.size := by rw [← ha5, size_put, s4]
  have f5 : ∀ s, a5.tmps.getD s undef = if s = d.d4 then .int .i64 i else a4.tmps.getD s undef := fun s => by rw [← ha5]; exact put_at (by rw [s4]; exact z6)
  -- 5
  refine wpAny_take (i := 5) (oi := o5) (v := .int .i64 ((i + 1 : Nat) : Int)) rfl hsel (hfr 5 (by decide)).1 (hfr 5 (by decide)).2 (hQ _ _) (yields_of g5 (fun w =>
    run_inc p5 (by rw [f5, if_pos rfl]) (by omega))) ?_
  rw [t5]
  generalize ha6 : a5.put (some d.d5) (.int .i64 ((i + 1 : Nat) : Int)) = a6
  have s6 : a6.tmps.size = a.tmps.size := by rw [← ha6, size_put, s5]
  have f6 : ∀ s, a6.tmps.getD s undef = if s = d.d5 then .int .i64 ((i + 1 : Nat) : Int) else a5.tmps.getD s undef := fun s => by rw [← ha6]; exact put_at (by rw [s5]; exact z7)
  -- 6
  refine wpAny_take (i := 6) (oi := o6) (v := .slice (some ⟨b, if cap = i + 1 then off else off + (i + 1) * e.sz, none⟩) (l.length - (i + 1)) (cap - (i + 1))) rfl hsel (hfr 6 (by decide)).1 (hfr 6 (by decide)).2 (hQ _ _) (yields_of g6 (fun w =>
    run_cutLo (n := l.length) (cap := cap) (i := i + 1) hu hel p6 (by rw [f6, if_neg n5_7, f5, if_neg n5_6, f4, if_pos rfl]) (by rw [f6, if_pos rfl]) (by omega))) ?_
  rw [t6]
  generalize ha7 : a6.put (some d.d6) (.slice (some ⟨b, if cap = i + 1 then off else off + (i + 1) * e.sz, none⟩) (l.length - (i + 1)) (cap - (i + 1))) = a7
  have s7 : a7.tmps.size = a.tmps.size := by rw [← ha7, size_put, s6]
  have f7 : ∀ s, a7.tmps.getD s undef = if s = d.d6 then .slice (some ⟨b, if cap = i + 1 then off else off + (i + 1) * e.sz, none⟩) (l.length - (i + 1)) (cap - (i + 1)) else a6.tmps.getD s undef := fun s => by rw [← ha7]; exact put_at (by rw [s6]; exact z8)
  -- 7
  refine wpAny_all hr7 (by simp) (fun j hj => ?_)
  obtain rfl : j = 7 := by simpa using hj
  have hm2 : (i + 1) * e.sz ≤ l.length * e.sz := Nat.mul_le_mul_right _ hi
  have hm1 : i * e.sz + e.sz = (i + 1) * e.sz := by rw [Nat.add_mul, Nat.one_mul]
  have hm3 : l.length * e.sz ≤ cap * e.sz := Nat.mul_le_mul_right _ hcap
  have hm4 : (l.length - (i + 1)) * e.sz = l.length * e.sz - (i + 1) * e.sz := Nat.sub_mul ..
  have happ : (execOp a7.eval o7).run P w1 = .ok (.value (.slice (some ⟨b, off, none⟩) (l.length - 1) cap)) (w1.setCells b (off + i * e.sz) (((c.toList.drop off).take (l.length * e.sz)).drop ((i + 1) * e.sz))) := by
    obtain ⟨inf, dd, hinf, hsize, hz, hby, _⟩ := hel
    have hheap1 : w1.heap[b]? = some (.cells c elx (0, 0)) := by rw [← hw1]; exact hheap
    have hys : ∀ k u, (((c.toList.drop off).take (l.length * e.sz)).drop ((i + 1) * e.sz))[k]? = some u → c[off + (i + 1) * e.sz + k]? = some u := by
      intro k u hk
      rw [List.getElem?_drop, List.getElem?_take] at hk
      split at hk
      · rw [List.getElem?_drop] at hk
        rw [← Array.getElem?_toList]
        rw [← hk]; congr 1; omega
      · cases hk
    have hyl : (((c.toList.drop off).take (l.length * e.sz)).drop ((i + 1) * e.sz)).length = (l.length - (i + 1)) * e.sz := by
      simp; omega
    have hr := run_append_room_cells (P := P) w1 d.t o7.type el inf hu hinf b off i cap ⟨b, if cap = i + 1 then off else off + (i + 1) * e.sz, none⟩ (l.length - (i + 1)) (cap - (i + 1))
      (((c.toList.drop off).take (l.length * e.sz)).drop ((i + 1) * e.sz)) (by rw [hsize]; exact hyl) (fun k u hk => by
        have hlt : k < (((c.toList.drop off).take (l.length * e.sz)).drop ((i + 1) * e.sz)).length := (List.getElem?_eq_some_iff.1 hk).1
        have hne : cap ≠ i + 1 := by
          intro hc
          have : l.length - (i + 1) = 0 := by omega
          rw [hyl, this] at hlt
          omega
        rw [if_neg hne, Addr.add_lit, cell_row hheap1]
        exact hys k u hk) (fun u hu => h1c u (List.mem_of_mem_drop hu)) (by omega)
      (fun k hk => by rw [cell_row hheap1, hsize]; rw [hyl] at hk; have : off + i * e.sz + k < c.size := by omega
                      simp [this]) (fun k hk => frozen_row hheap1 _)
    rw [hsize] at hr
    have e1 : a7.eval (.tmp d.d2) = .slice (some ⟨b, off, none⟩) i cap := by
      show a7.tmps.getD d.d2 undef = _
      rw [f7, if_neg n4_8, f6, if_neg n4_7, f5, if_neg n4_6, f4, if_neg n4_5, f3, if_pos rfl]
    have e2 : a7.eval (.tmp d.d6) = .slice (some ⟨b, if cap = i + 1 then off else off + (i + 1) * e.sz, none⟩) (l.length - (i + 1)) (cap - (i + 1)) := by
      show a7.tmps.getD d.d6 undef = _
      rw [f7, if_pos rfl]
    have hn1 : i + (l.length - (i + 1)) = l.length - 1 := by omega
    rw [hn1] at hr
    simp only [execOp, p7]
    simp [resolve, pc, invoke, builtin, pa, pt, e1, e2, hr]
  refine wpOp_of_value (ops := [o0, o1, o2, o3, o4, o5, o6, o7, o8]) (i := 7) rfl (by simp [Region.wanted, g7]) ?_
  unfold Oper.wp
  rw [happ]
  rw [Oper.upon_value, t7]
  generalize ha8 : a7.put (some d.d7) (.slice (some ⟨b, off, none⟩) (l.length - 1) cap) = a8
  have s8 : a8.tmps.size = a.tmps.size := by rw [← ha8, size_put, s7]
  have f8 : ∀ s, a8.tmps.getD s undef = if s = d.d7 then .slice (some ⟨b, off, none⟩) (l.length - 1) cap else a7.tmps.getD s undef := fun s => by rw [← ha8]; exact put_at (by rw [s7]; exact z9)
  -- 8
  refine wpAny_all hr8 (by simp) (fun j hj => ?_)
  obtain rfl : j = 8 := by simpa using hj
  refine wpOp_of_value (ops := [o0, o1, o2, o3, o4, o5, o6, o7, o8]) (i := 8) rfl (by simp [Region.wanted, g8]) ?_
  unfold Oper.wp
  rw [run_asg p8, f8, if_pos rfl, Oper.upon_value, t8]
  refine ⟨hr9, rfl, ?_⟩
  have hw2 : w1.setCells b (off + i * e.sz) (((c.toList.drop off).take (l.length * e.sz)).drop ((i + 1) * e.sz)) = { w.setCells b (off + i * e.sz) (((c.toList.drop off).take (l.length * e.sz)).drop ((i + 1) * e.sz)) with drawn := w.drawn + 1 } := by
    rw [← hw1]; exact setCells_drawn ..
  rw [hw2]
  have hI2 := hI'.drawn (w.drawn + 1)
  have hrow2 : RowOk { w.setCells b (off + i * e.sz) (((c.toList.drop off).take (l.length * e.sz)).drop ((i + 1) * e.sz)) with drawn := w.drawn + 1 } G' e (l.take i ++ l.drop (i + 1)) (.slice (some ⟨b, off, none⟩) (l.length - 1) cap) (.row tk [tk] true) :=
    RowOk.agree (w := w.setCells b (off + i * e.sz) (((c.toList.drop off).take (l.length * e.sz)).drop ((i + 1) * e.sz))) (G := G') ⟨fun _ _ => rfl, fun _ _ => rfl, fun _ _ => rfl⟩ hrow'
  have k0 := hI2.putNo' (some d.d0) (.slice (some ⟨b, off, none⟩) l.length cap)
  rw [ha1] at k0
  have k1 := k0.putNo' (some d.d1) (.int .i64 i)
  rw [ha2] at k1
  have k2 := k1.putNo' (some d.d2) (.slice (some ⟨b, off, none⟩) i cap)
  rw [ha3] at k2
  have k3 := k2.putNo' (some d.d3) (.slice (some ⟨b, off, none⟩) l.length cap)
  rw [ha4] at k3
  have k4 := k3.putNo' (some d.d4) (.int .i64 i)
  rw [ha5] at k4
  have k5 := k4.putNo' (some d.d5) (.int .i64 ((i + 1 : Nat) : Int))
  rw [ha6] at k5
  have k6 := k5.putNo' (some d.d6) (.slice (some ⟨b, if cap = i + 1 then off else off + (i + 1) * e.sz, none⟩) (l.length - (i + 1)) (cap - (i + 1)))
  rw [ha7] at k6
  have k7 := k6.putNo' (some d.d7) (.slice (some ⟨b, off, none⟩) (l.length - 1) cap)
  rw [ha8] at k7
  have hgood : ∀ c' ∈ (SV.d ⟨.sl e, l.take i ++ l.drop (i + 1), .sl (.row tk [tk] true)⟩).sc, 0 < c' ∧ (c' < N ∨ c' = tk) ∧ G'.bx c' = false := by
    intro c' hc'
    simp only [SV.sc, Sh.cols, M.cols, List.mem_cons, List.not_mem_nil, or_false, or_self] at hc'
    subst hc'
    exact ⟨by omega, .inr rfl, hbx'⟩
  have k8 := k7.put (some d.s) (sv := .d ⟨.sl e, l.take i ++ l.drop (i + 1), .sl (.row tk [tk] true)⟩) (v := .slice (some ⟨b, off, none⟩) (l.length - 1) cap) ⟨[_], rfl, _, rfl, hrow2⟩ hgood (by simp [SV.bt]) (by simp [SV.rt]) (by rintro _ _ ⟨⟩)
  refine hK _ _ _ k8 (fun x hx => ?_)
  simp only [DelD.outs, List.mem_cons, List.not_mem_nil, or_false, not_or] at hx
  obtain ⟨x0, x2, x3, x4, x5, x6, x7, x8, x9⟩ := hx
  rw [put_at (by rw [s8]; exact z0), if_neg x0, f8, if_neg x9, f7, if_neg x8, f6, if_neg x7, f5, if_neg x6, f4, if_neg x5, f3, if_neg x4, f2, if_neg x3, f1, if_neg x2]


theorem del_outs {ops : List Oper} {d : DelD} (h : delOf ops = some d) : ∀ x ∈ d.outs, ∃ o ∈ ops, o.dst = some x := by
  have h' : delOf ops.toArray.toList = some d := by simpa using h
  obtain ⟨o0, o1, o2, o3, o4, o5, o6, o7, o8, he, q0, q1, q2, q3, q4, q5, q6, q7, q8, _⟩ := delOf_spec h'
  have he' : ops = [o0, o1, o2, o3, o4, o5, o6, o7, o8] := by
    have := congrArg Array.toList he
    simpa using this
  subst he'
  intro x hx
  simp only [DelD.outs, List.mem_cons, List.not_mem_nil, or_false] at hx
  rcases hx with rfl | rfl | rfl | rfl | rfl | rfl | rfl | rfl | rfl
  · exact ⟨o8, by simp, (asgOf_spec q8).2.2⟩
  · exact ⟨o0, by simp, (mvOf_spec q0).2.2⟩
  · exact ⟨o1, by simp, (mvOf_spec q1).2.2⟩
  · exact ⟨o2, by simp, (slHi_spec q2).2.2⟩
  · exact ⟨o3, by simp, (mvOf_spec q3).2.2⟩
  · exact ⟨o4, by simp, (mvOf_spec q4).2.2⟩
  · exact ⟨o5, by simp, (incOf_spec q5).2.2⟩
  · exact ⟨o6, by simp, (slLo_spec q6).2.2⟩
  · exact ⟨o7, by simp, (appOf_spec q7).2.2⟩

theorem keeps_no {io : List Nat} {ops : List Oper} (h : keeps io ops = true) {o : Oper} (ho : o ∈ ops) {x : Nat} (hx : o.dst = some x) : x ∉ io := by
  unfold keeps at h
  rw [List.all_eq_true] at h
  have := h o ho
  rw [hx] at this
  simpa using this

theorem delE_len {d : DelD} {ts : List Nat} {tk : Nat} {e : Ty} {l : List e.den} {i : Nat} : (delE E d ts tk e l i).s.length = E.s.length := by
  simp only [delE, Env.set, List.length_set]
  unfold Env.kill
  split
  · rfl
  · simp

theorem set_noG {E : Env} {d : Nat} {sv : SV} (h : NoG E.s) (hs : ∀ j w act v, sv ≠ .g j w act v) : NoG (E.set (some d) sv).s := by
  intro s j w act v
  simp only [Env.set, get_set]
  split
  · exact hs j w act v
  · exact h s j w act v

theorem delE_noG {d : DelD} {ts : List Nat} {tk : Nat} {e : Ty} {l : List e.den} {i : Nat} (h : NoG E.s) : NoG (delE E d ts tk e l i).s := by
  have h0 : NoG (E.kill ts).s := by
    intro s j w act v he
    obtain ⟨v', h'⟩ := kill_g he
    exact h s j w act v' h'
  unfold delE
  refine set_noG ?_ (by rintro _ _ _ _ ⟨⟩)
  iterate 8 refine set_noG ?_ (by rintro _ _ _ _ ⟨⟩)
  exact h0

section
variable {ρ : Type}
def delStep (C : Cx) (d : DelD) (n : Nat) (E : Env) (kn : Env → Option ρ) : Option ρ :=
  match C.tt d.t, E.s.getD d.s .no, E.get d.j with
  | some ⟨.sl e, _, _⟩, .d ⟨.sl e', l', .sl m⟩, .d ⟨.int .i64, i, _⟩ => (match castV ⟨.sl e', l', .leaf⟩ (.sl e), m.own with
    | some l, some ts => if decide (0 ≤ i ∧ i < (((l : List e.den).length : Nat) : Int) ∧ (l : List e.den).length < 4294967296) = true then
        (match d.tmps.all (fun x => decide (x < E.s.length)) with
        | true => kn { delE E d ts E.nt e l i.toNat with nt := E.nt + 32 * n }
        | false => none)
      else none
    | _, _ => none)
  | _, _, _ => none
end

theorem delStep_ok {ρ : Type} (hC : CxTy P C) (hm : P.follows .mixedOrders = true) (hI : Inv w0 c0 (fun u => u < E.nt) E a w G) (hg : NoG E.s) (h3 : 3 ≤ E.nt) {ops : Array Oper} {d : DelD} (hd : delOf ops.toList = some d) (hn : 0 < ops.size)
    {io : List Nat} (hkp : keeps io ops.toList = true) {kn : Env → Option ρ} {r : ρ} (h : delStep C d ops.size E kn = some r) {id : Nat}
    (hK : ∀ E' a' w' G', Inv w0 c0 (fun u => u < E'.nt) E' a' w' G' → NoG E'.s → E'.s.length = E.s.length → 3 ≤ E'.nt → (∀ i ∈ io, a'.tmps.getD i undef = a.tmps.getD i undef) → kn E' = some r → Q .normal a' w') :
    (Code.region id ops true).wp P Q a w := by
  unfold delStep at h
  split at h
  · rename_i e fs el e' l' m i sh ht hs hj
    split at h
    · rename_i l ts hcast ho
      have hcv := castV_ok hcast
      simp only [TV.mk.injEq] at hcv
      obtain ⟨he, hl, _⟩ := hcv
      cases he
      cases hl
      split at h
      · rename_i hc
        obtain ⟨hc0', hc1', hc2⟩ := of_decide_eq_true hc
        have hc0 : @LE.le Int Int.instLEInt 0 i := hc0'
        have hc1 : @LT.lt Int Int.instLTInt i ((List.length l : Nat) : Int) := hc1'
        split at h
        · rename_i hsz
          rw [List.all_eq_true] at hsz
          have hi0 : ((i.toNat : Nat) : Int) = i := Int.toNat_of_nonneg hc0
          refine del_region hC hm hI hd ht hs (i := i.toNat) (sh := sh) (by rw [hi0]; exact hj) ho (by omega) hc2 (fun x hx => of_decide_eq_true (hsz x hx)) h3 (Nat.le_refl _) (fun a' w' G' g1 g2 => ?_)
          refine hK { delE E d ts E.nt _ l i.toNat with nt := E.nt + 32 * ops.size } a' w' G' ?_ (delE_noG hg) delE_len (by show 3 ≤ E.nt + 32 * ops.size; omega) (fun j hj => g2 j (fun hin => ?_)) h
          · have := g1.mono (U' := fun u => u < E.nt + 32 * ops.size) (fun u hu => by rcases hu with hu | hu <;> omega)
            exact { this with }
          · obtain ⟨o, ho', hx⟩ := del_outs hd j hin
            exact keeps_no hkp ho' hx hj
        · cases h
      · cases h
    · cases h
  · cases h

end
end Vg

/- VG, part 63: the evaluator with calls that write into what they are handed. -/
namespace Vg
open Go

abbrev MTab := FuncId → Option MCon

/-- A call of a function that writes into what it is handed: its contract, the slots of its arguments. -/
def callOf (M : MTab) (o : Oper) : Option (FuncId × MCon × Nat × Nat) :=
  match o.guard, o.op with
  | none, .call c => (match c.callee, c.args.toList with
    | .value (.func f), [.tmp s, .tmp j] => (match M f with | some m => some (f, m, s, j) | none => none)
    | _, _ => none)
  | _, _ => none

/-- A load of a part of an element that is handed on at once: the contract, the pointer's slot, the number's slot, the slots that are written. -/
def nestOf (M : MTab) (o1 o2 o3 : Oper) : Option (FuncId × MCon × TypeId × Nat × Nat × Nat × Nat) :=
  match o1.guard, o1.op, o1.dst, o2.guard, o2.op, o2.dst with
  | none, .load t (.tmp p), some d1, none, .move (.tmp q), some d2 => (match callOf M o3 with
    | some (f, m, s, j) => (match decide (s = d1 ∧ j = d2 ∧ d1 ≠ d2 ∧ q ≠ d1) with | true => some (f, m, t, p, q, d1, d2) | false => none)
    | none => none)
  | _, _, _, _, _, _ => none

inductive MStp where
  | one (o : Oper)
  | nest (o1 o2 o3 : Oper)

def MStp.ops : MStp → List Oper
  | .one o => [o]
  | .nest o1 o2 o3 => [o1, o2, o3]

def steps (M : MTab) : List Oper → List MStp
  | o1 :: o2 :: o3 :: l => match nestOf M o1 o2 o3 with
    | some _ => .nest o1 o2 o3 :: steps M l
    | none => .one o1 :: steps M (o2 :: o3 :: l)
  | [o1, o2] => [.one o1, .one o2]
  | [o1] => [.one o1]
  | [] => []

theorem steps_ops (M : MTab) : ∀ l : List Oper, (steps M l).flatMap MStp.ops = l
  | o1 :: o2 :: o3 :: l => by
    simp only [steps]
    split
    · simp only [List.flatMap_cons, MStp.ops, steps_ops M l]; rfl
    · simp only [List.flatMap_cons, MStp.ops, steps_ops M (o2 :: o3 :: l)]; rfl
  | [_, _] => rfl
  | [_] => rfl
  | [] => rfl

/-- What a slot holds that may be written into. -/
def topA (m : MCon) (s j : Nat) (E : Env) : Option (m.τ.den × Sh × Int) :=
  match E.get s, E.get j with
  | .d v, .d ⟨.int .i64, n, _⟩ => (match castV v m.τ, ownT v.sh with
    | some x, some _ => some (x, v.sh, n)
    | _, _ => none)
  | _, _ => none

structure NestD (m : MCon) where
  b : Nat
  e : Ty
  l : List e.den
  i : Int
  path : List Bool
  x : m.τ.den
  n : Int

def nestA (tt : TypeId → Option TI) (m : MCon) (t : TypeId) (p q d1 d2 : Nat) (E : Env) : Option (NestD m) :=
  match tt t, E.get p, E.get q with
  | some ti, .ept b e i o path _, .d ⟨.int .i64, n, _⟩ => (match findRow b e E.s with
    | some (l, hs, nd) => (match nd && hs.all (· == b) && decide (e.off path = o) && decide (ti.τ = m.τ) && decide (d1 < E.s.length ∧ d2 < E.s.length), subV e (l.getD i.toNat e.dflt) (shOf e (.sha [])) path with
      | true, some r => (match castV r m.τ with | some x => some ⟨b, e, l, i, path, x, n⟩ | none => none)
      | _, _ => none)
    | none => none)
  | _, _, _ => none

/-- The same of a box's part. -/
def ptrA (tt : TypeId → Option TI) (m : MCon) (t : TypeId) (p q d1 d2 : Nat) (E : Env) : Option (m.τ.den × Sh × Int) :=
  match tt t, alias_ (E.get p), E.get q with
  | some ti, .ptr b o path _, .d ⟨.int .i64, n, _⟩ => (match findBox E.s b 0 with
    | some (_, v) => (match decide (v.τ.off path = o) && decide (ti.τ = m.τ) && decide (d1 < E.s.length ∧ d2 < E.s.length), subV v.τ v.x v.sh path with
      | true, some r => (match castV r m.τ, ownT r.sh with | some x, some _ => some (x, r.sh, n) | _, _ => none)
      | _, _ => none)
    | none => none)
  | _, _, _ => none

def isPtr : SV → Bool
  | .ptr .. => true
  | _ => false

/-- A constant of a type that is not told. -/
def untold (C : Cx) (o : Oper) : Bool :=
  match o.guard, o.op with
  | none, .assign (.const _) => (C.tt o.type).isNone
  | _, _ => false

/-- An element is written, and what was written shares in its row. -/
def Env.elem2 (E : Env) (gv : List Nat) (b : Nat) (e : Ty) (l : List e.den) : Env :=
  { E with s := E.s.map fun s => (((s.killSha b).setRow b e l (.row b (b :: gv) true)).give gv b) }

section
variable {ρ : Type}
def applyEf3 (o : Oper) (a : Option Bool) (E : Env) (k : Env → Option ρ) (ef : Ef) : Option ρ :=
  match ef, a with
  | .call _ x tks f rp, some b => if b = true then x.bind (fun r => k (Env.set { E.killR tks (rp r) with s := putBoxes (f r).2 (E.killR tks (rp r)).s } o.dst (wrapG o.guard (some true) (f r).1))) else k (E.set o.dst (wrapG o.guard (some false) (vB false)))
  | .elem (g :: gv) b e l _, none => (match o.dst, o.op with | none, .store _ _ _ => k (E.elem2 (g :: gv) b e l) | _, _ => none)
  | ef, a => applyEf2 o a E k ef

def evStps (C : Cx) (M : MTab) (ops : List Oper) (nt : Nat) : List MStp → Nat → Env → (Env → Option ρ) → Option ρ
  | [], _, E, k => k E
  | .one o :: l, i, E, k => match callOf M o with
    | some (_, m, s, j) => (match topA m s j E with
      | some (x, sh, n) => (m.F x n).bind fun r => evStps C M ops nt l (i + 1) ((E.mark (rowsOf m.τ r.2 sh)).set o.dst (vI .i64 r.1)) k
      | none => none)
    | none => match untold C o with
      | true => evStps C M ops nt l (i + 1) (E.set o.dst .no) k
      | false => match guardOf ops E.rd o.guard with
        | none => none
        | some a => match evOp C ops E.rd (nt + 32 * i) o.guard o with
          | none => none
          | some ef => applyEf3 o a E (fun E' => evStps C M ops nt l (i + 1) E' k) ef
  | .nest o1 o2 o3 :: l, i, E, k => match nestOf M o1 o2 o3 with
    | some (_, m, t, p, q, d1, d2) => match isPtr (alias_ (E.get p)) with
      | true => (match ptrA C.tt m t p q d1 d2 E with
        | some (x, sh, n) => (m.F x n).bind fun r => evStps C M ops nt l (i + 3) ((((E.mark (rowsOf m.τ r.2 sh)).set (some d1) .no).set (some d2) .no).set o3.dst (vI .i64 r.1)) k
        | none => none)
      | false => (match nestA C.tt m t p q d1 d2 E with
        | some d => (m.F d.x d.n).bind fun r => match putV d.e (d.l.getD d.i.toNat d.e.dflt) (shOf d.e (.sha [])) d.path ⟨m.τ, r.2, shOf m.τ (.sha [])⟩ with
          | some y => evStps C M ops nt l (i + 3) ((((E.mark [⟨d.b, d.e, d.l.set d.i.toNat y.1⟩]).set (some d1) .no).set (some d2) .no).set o3.dst (vI .i64 r.1)) k
          | none => none
        | none => none)
    | none => none

def evM (C : Cx) (M : MTab) : Code → Env → (Env → Option ρ) → List (Nat × (Env → Option ρ)) → (Env → Option ρ) → Option ρ
  | .skip, E, kn, _, _ => kn E
  | .region _ ops draw, E, kn, _, _ => match guardsOk ops.toList && keeps C.io ops.toList with
    | true => (match draw with
      | true => (match delOf ops.toList with
        | some d => delStep C d ops.size E kn
        | none => evOpsL2 C ops.toList E.nt ops.toList 0 E [] (fun E' L => match labsOk ops.toList L with | true => kn { clearG E' ops.toList with nt := E.nt + 32 * ops.size } | false => none))
      | false => evStps C M ops.toList E.nt (steps M ops.toList) 0 E (fun E' => kn { clearG E' ops.toList with nt := E.nt + 32 * ops.size }))
    | false => none
  | .seq a b, E, kn, ke, kr =>
    match (firstReg b).bind C.ja with
    | none => evM C M a E (fun E' => evM C M b E' kn ke kr) ke kr
    | some n => joinC (fun J => evM C M a E (fun E' => match proj n E' with | some t => J t | none => none) ke kr) (fun t => evM C M b (unproj C.n n t) kn ke kr)
  | .cond c x y, E, kn, ke, kr =>
    match arg C E.rd none 0 c with
    | some (.d ⟨.bool, b, _⟩) => if b = true then evM C M x E kn ke kr else evM C M y E kn ke kr
    | _ => none
  | .block id c, E, kn, ke, kr => evM C M c E kn ((id, kn) :: ke) kr
  | .loop c, E, _, ke, kr =>
    match (firstReg c).bind C.la with
    | none => none
    | some n => match proj n E with
      | some t => loopN C.k (fun G t => evM C M c (unproj C.n n t) (fun E' => match proj n E' with | some t => G t | none => none) ke kr) t
      | none => none
  | .exit id, E, _, ke, _ => match ke.lookup id with | some k => k E | none => none
  | .ret, E, _, _, kr => kr E
  | _, _, _, _, _ => none
end

/-- All contracts hold. -/
def MTabOk (P : Program) (M : MTab) : Prop := ∀ f m, M f = some m → MMeets P f m

section
variable {P : Program} {C : Cx} {M : MTab} {w0 : World} {c0 : C0} {U : Nat → Prop} {E : Env} {a : Act} {w : World} {G : Gh} {ops : List Oper} {L : Nat → Prop} {Q : Exit → Act → World → Prop} {ρ : Type}

theorem callOf_spec {o : Oper} {f : FuncId} {m : MCon} {s j : Nat} (h : callOf M o = some (f, m, s, j)) :
    o.guard = none ∧ M f = some m ∧ ∃ c : Call, o.op = .call c ∧ c.callee = .value (.func f) ∧ c.args.toList = [.tmp s, .tmp j] := by
  unfold callOf at h
  split at h
  · rename_i c hg ho
    split at h
    · rename_i f' s' j' hc ha
      split at h
      · rename_i m' hm
        cases h
        exact ⟨hg, hm, c, ho, hc, ha⟩
      · cases h
    · cases h
  · cases h

theorem nestOf_spec {o1 o2 o3 : Oper} {f : FuncId} {m : MCon} {t : TypeId} {p q d1 d2 : Nat} (h : nestOf M o1 o2 o3 = some (f, m, t, p, q, d1, d2)) :
    o1.guard = none ∧ o1.op = .load t (.tmp p) ∧ o1.dst = some d1 ∧ o2.guard = none ∧ o2.op = .move (.tmp q) ∧ o2.dst = some d2 ∧ d1 ≠ d2 ∧ q ≠ d1 ∧ callOf M o3 = some (f, m, d1, d2) := by
  unfold nestOf at h
  split at h
  · rename_i t' p' d1' q' d2' h1 h2 h3 h4 h5 h6
    split at h
    · rename_i f' m' s' j' hc
      split at h
      · rename_i hd
        simp only [decide_eq_true_eq] at hd
        cases h
        obtain ⟨rfl, rfl, e1, e2⟩ := hd
        exact ⟨h1, h2, h3, h4, h5, h6, e1, e2, hc⟩
      · cases h
    · cases h
  · cases h

theorem wp_of_upon {o : Oper} {c : Call} {f : FuncId} (ho : o.op = .call c) (hc : c.callee = .value (.func f)) {R : Value → World → Prop} {K : Act → World → Prop} (h : Upon P f (c.args.map a.eval) w R)
    (hK : ∀ v w', R v w' → K (a.put o.dst v) w') : o.wp P a w K Q := by
  have hrun : (execOp a.eval o).run P w = (callFunc f (c.args.map a.eval)).run P w := by
    simp only [execOp, ho]
    simp [resolve, hc, Deferred.ofValue, Act.eval, invoke]
  refine wp_of_enters (R := R) ?_ hK
  rw [hrun]
  exact h

theorem slot_int (hI : Inv w0 c0 U E a w G) {j : Nat} {n : Int} {sh : Sh} (h : E.get j = .d ⟨.int .i64, n, sh⟩) : a.tmps.getD j undef = .int .i64 n := by
  have hs := hI.slots j
  have h' : E.s.getD j .no = .d ⟨.int .i64, n, sh⟩ := h
  rw [h'] at hs
  obtain ⟨cs, h1, h2⟩ := hs
  cases sh with
  | leaf => rw [h1, show cs = _ from h2]; rfl
  | sl m => exact h2.elim
  | pair a b => exact h2.elim

theorem mark_noG {L' : List RowW} : ∀ s j w act v, (E.mark L').s.getD s .no ≠ .g j w act v := by
  intro s j w act v
  have := getD_map (L := E.s) (T := SV.mark L') rfl s
  show (E.s.map (SV.mark L')).getD s .no ≠ _
  rw [this]
  exact mark_g

theorem set_ng {E : Env} {d : Option Nat} {sv : SV} (h : ∀ s j w act v, E.s.getD s .no ≠ .g j w act v) (hs : ∀ j w act v, sv ≠ .g j w act v) : ∀ s j w act v, (E.set d sv).s.getD s .no ≠ .g j w act v := by
  intro s j w act v
  cases d with
  | none => exact h s j w act v
  | some d =>
    simp only [Env.set, get_set]
    split
    · exact hs j w act v
    · exact h s j w act v

theorem mark_len (L' : List RowW) : (E.mark L').s.length = E.s.length := by simp [Env.mark]

theorem Inv.putI (hI : Inv w0 c0 U E a w G) (d : Option Nat) (n : Int) : Inv w0 c0 U (E.set d (vI .i64 n)) (a.put d (.int .i64 n)) w G := by
  have hm := ment_int (U := U) (G := G) .i64 n
  exact hI.put d (ok_int .i64 n) hm.1 hm.2.1 hm.2.2 (by rintro _ _ ⟨⟩)

theorem Inv.putNo (hI : Inv w0 c0 U E a w G) (d : Option Nat) (v : Value) : Inv w0 c0 U (E.set d .no) (a.put d v) w G :=
  hI.put d (sv := .no) trivial (by simp [SV.sc]) (by simp [SV.bt]) (by simp [SV.rt]) (by rintro _ _ ⟨⟩)

theorem putI_act (d : Option Nat) (v : Value) (s : Nat) (h : d ≠ some s) : (a.put d v).tmps.getD s undef = a.tmps.getD s undef := by
  cases d with
  | none => rfl
  | some d =>
    have : d ≠ s := fun e => h (by rw [e])
    simp [Act.put, Array.getD_eq_getD_getElem?, Array.getElem?_setIfInBounds_ne this]

end
end Vg

/- VG, part 64: the soundness of the evaluator with calls that write into what they are handed. -/
namespace Vg
open Go

section
variable {P : Program} {C : Cx} {M : MTab} {g : Option (Nat × Bool)} {w0 : World} {c0 : C0} {U : Nat → Prop} {E : Env} {a : Act} {w : World} {G : Gh} {ops : List Oper} {L : Nat → Prop} {Q : Exit → Act → World → Prop} {ρ : Type}

theorem elem2_ok (hC : CxTy P C) (hI : Inv w0 c0 U E a w G) (hR : RI ops E a.tmps) (hg : Gd ops a.tmps g) {tk : Nat} {o : Oper} {t : TypeId} {x y : Operand}
    {gv : List Nat} {b : Nat} {e : Ty} {l' : List e.den} {m : Vg.M} (ho : o.op = .store t x y) (hgne : gv ≠ []) (h0 : evOp C ops E.rd tk g o = some (.elem gv b e l' m)) :
    ∃ w' G', (execOp a.eval o).run P w = .ok .skip w' ∧ Inv w0 c0 U (E.elem2 gv b e l') a w' G' := by
  have h := evOp_elem h0
  simp only [evOp0, ho] at h
  split at h
  · split at h
    · split at h
      · obtain ⟨r, _, h⟩ := Option.map_eq_some_iff.mp h
        cases h
      · cases h
    · cases h
  · rename_i ti b1 e1 i off p τ1 v1 hti harg hv
    split at h
    · rename_i l hs nd hrow
      obtain ⟨hc, h⟩ := Option.ite_none_right_eq_some.mp h
      obtain ⟨hno, h⟩ := Option.ite_none_left_eq_some.mp h
      obtain ⟨r, hr, h⟩ := Option.map_eq_some_iff.mp h
      simp only [Ef.elem.injEq] at h
      obtain ⟨hgv, rfl, rfl, hl', hm⟩ := h
      have hl' := eq_of_heq hl'
      subst hl'
      simp only [Bool.and_eq_true, decide_eq_true_eq] at hc
      obtain ⟨⟨⟨hc1, hc2⟩, hc3⟩, hc4⟩ := hc
      obtain ⟨h1, _⟩ := arg_ok hI hR hg harg
      obtain ⟨bk, of, n, cap, hb3, k2, k3, k4, k5⟩ := h1
      obtain ⟨⟨vh, hvh⟩, hgood⟩ := hI.findRow hrow
      obtain ⟨⟨cv, hcv, hvv⟩, hvg, hlive⟩ := argD_ok hI hR hg hv
      have hvh0 : vh = G.hdr b1 := hvh.2.1.symm
      have hno' := hno
      simp only [Bool.not_eq_true] at hno'
      obtain ⟨q1, q2, q3, B, Bv, hs', nd', hB, hBv, hm', hblk⟩ := elemM_ok (τ := τ1) (gv := gv) (m := m) hvh hgood hvv hvg hlive hc3 _ rfl hgv.symm hm.symm hno'
      rw [hvh0, k2] at hB
      rcases hB with ⟨⟨ao, hB⟩, _⟩ | ⟨bk', of', cap', c, el, fz, Bs, hvv', hcap, hheap, hsz, rfl, hl⟩
      · cases hB; exfalso; have k4' : i < ((0 : Nat) : Int) := k4; have k3' : @LE.le Int Int.instLEInt 0 i := k3; omega
      · simp only [Value.slice.injEq, Option.some.injEq, Addr.mk.injEq, and_true] at hvv'
        obtain ⟨⟨rfl, rfl⟩, rfl, rfl⟩ := hvv'
        obtain ⟨j1, j2, j3, j4⟩ := hblk bk Bs rfl
        obtain ⟨c', el', hfr⟩ := hI.fresh bk (by rw [j1]; exact hb3)
        rw [hfr] at hheap
        simp only [Option.some.injEq, Obj.cells.injEq] at hheap
        obtain ⟨rfl, rfl, rfl⟩ := hheap
        have hi : i.toNat < l.length := toNat_lt k3 k4
        have hget : l[i.toNat]? = some (l.getD i.toNat e1.dflt) := by
          rw [List.getD_eq_getElem?_getD, List.getElem?_eq_getElem hi]; rfl
        obtain ⟨B1, Bx, B2, rfl, hx1, hx2, hx3⟩ := RepL.get (sz := e1.sz) (fun x c B h => Rep.len h) hl hget
        obtain ⟨Ba, Bo, Bb, rfl, hput, hle⟩ := Rep.put hr hx1 hBv
        have hset := RepL.set (sz := e1.sz) hi hput hx2 hx3
        have hlv : cv.length = v1.τ.sz := VOk.len hvv
        have hmul : (i.toNat + 1) * e1.sz ≤ l.length * e1.sz := Nat.mul_le_mul_right _ hi
        have hmul2 : l.length * e1.sz ≤ cap * e1.sz := Nat.mul_le_mul_right _ hcap
        rw [Nat.add_mul, Nat.one_mul] at hmul
        have hO : of + i.toNat * e1.sz + off + cv.length ≤ c'.size := by rw [← hc1]; omega
        have hrow' := setCells_row bk (el := el') cv (of + i.toNat * e1.sz + off) w c' hfr hO
        have hT := (hC.tt t ti hti).1
        have hrun := run_storeAt (P := P) (t := t) (τ := ti.τ) hT hfr (o := of + i.toNat * e1.sz + off) (cs := cv) (by rw [← hc4, ← hlv]; exact hO) (by rw [hlv, hc4]) (VOk.one hvv) k5
        have hU : U b1 := (hgood b1 (by simp)).2.1
        have hbx : G.bx b1 = false := (hgood b1 (by simp)).2.2
        have hI1 := hI.map (killSha_ok (w := w) b1) hI.colU (fun b => ⟨fun h => h, fun _ => rfl, fun _ => rfl⟩)
        have hcol : G.col bk = b1 := j1
        have hother : ∀ k, G.col k ≠ b1 → (w.setCells bk (of + i.toNat * e1.sz + off) cv).heap[k]? = w.heap[k]? := fun k hk =>
          setCells_other bk _ _ w k (fun e => hk (e ▸ hcol))
        have hBs' := j4 (B1 ++ (Ba ++ Bv ++ Bb) ++ B2) ⟨B1 ++ Ba, Bo, Bb ++ B2, by simp [List.append_assoc], by simp [List.append_assoc]⟩
        have hnot : bk ∉ B1 ++ (Ba ++ Bv ++ Bb) ++ B2 := by
          simp only [List.mem_append, not_or] at j2 ⊢
          exact ⟨⟨j2.1.1, ⟨j2.1.2.1.1, j3⟩, j2.1.2.2⟩, j2.2⟩
        have hmm : hs' = [b1] ∧ nd' = true := by
          have key : ∀ (own : Option (List Nat)) (mm : Vg.M), own.getD [] = gv → (if own.isSome = true then (Vg.M.row b1 [b1] true) else mm) = .row b1 hs' nd' → hs' = [b1] ∧ nd' = true := by
            intro own mm h1 h2
            cases own with
            | none => exact absurd h1.symm hgne
            | some ts =>
              simp only [Option.isSome_some, if_true, Vg.M.row.injEq, true_and] at h2
              exact ⟨h2.1.symm, h2.2.symm⟩
          exact key _ _ hgv (hm.trans hm')
        obtain ⟨rfl, rfl⟩ := hmm
        have hnew : RowOk (w.setCells bk (of + i.toNat * e1.sz + off) cv) G e1 (l.set i.toNat r.1) (G.hdr b1) (.row b1 (b1 :: gv) true) := by
          refine ⟨hb3, rfl, bk :: (B1 ++ (Ba ++ Bv ++ Bb) ++ B2), ?_, ?_⟩
          · refine .inr ⟨bk, of, cap, _, el', (0, 0), B1 ++ (Ba ++ Bv ++ Bb) ++ B2, by simp [k2], by simpa using hcap, hrow', by simp; omega, rfl, ?_⟩
            have hcells : ((splice (of + i.toNat * e1.sz + off) cv c'.toList).drop of).take ((l.set i.toNat r.1).length * e1.sz) =
                ((c'.toList.drop of).take (l.length * e1.sz)).take (i.toNat * e1.sz) ++ splice (e1.off p) cv ((((c'.toList.drop of).take (l.length * e1.sz)).drop (i.toNat * e1.sz)).take e1.sz) ++ ((c'.toList.drop of).take (l.length * e1.sz)).drop ((i.toNat + 1) * e1.sz) := by
              rw [splice_drop (by omega) (by simp; omega), splice_take (by simp; omega) (by simp; omega)]
              rw [show of + i.toNat * e1.sz + off - of = i.toNat * e1.sz + e1.off p by omega]
              rw [splice_nest (sz := e1.sz) hle]
              rw [Nat.add_mul, Nat.one_mul]
              simp
            show RepL _ _ (((splice (of + i.toNat * e1.sz + off) cv c'.toList).toArray.toList.drop of).take _) _
            rw [List.toList_toArray, hcells]
            exact RepL.world (fun k hk => setCells_other bk _ _ w k (fun e => hnot (e ▸ hk))) hset
          · rintro h' Bs'' ⟨⟩
            refine ⟨hcol, hnot, fun x hx => ?_, hBs'.2⟩
            have := hBs'.1 x hx
            split at this
            · rename_i hin; exact List.mem_cons_of_mem _ hin
            · simp only [List.mem_singleton] at this; rw [this]; simp
        have hI2 := hI1.setRow hnew hbx hb3 hother (fun s => ?_) (fun c hc => ?_) (fun k hk => ?_) (by rw [setCells_size]) (setCells_env _ _ _ w).1 (setCells_env _ _ _ w).2.1 (setCells_env _ _ _ w).2.2
        · have hI3 := hI2.giveM (ts := gv) (t := b1) (v := G.hdr b1) hb3 q1 hU rfl hbx
          refine ⟨w.setCells bk (of + i.toNat * e1.sz + off) cv, G.give gv b1 (G.hdr b1), ?_, ?_⟩
          · simp only [execOp, ho, hcv, hc4]
            simp [hrun]
          · simpa only [Env.elem2, List.map_map, Function.comp_def, SV.killSha, SV.give] using hI3
        · have := getD_map (L := E.s) (T := SV.killSha b1) rfl s
          show SV.clear b1 ((List.map (SV.killSha b1) E.s).getD s .no)
          rw [this]
          exact SV.killSha_clear b1 _
        · simp only [M.cols, List.mem_cons] at hc
          rcases hc with rfl | rfl | hc
          · exact hgood _ (by simp)
          · exact hgood _ (by simp)
          · exact (q1 c hc).2
        · by_cases e : k = bk
          · subst e; exact ⟨_, _, hrow'⟩
          · rw [setCells_other bk _ _ w k e]
            exact hI.fresh k (by rw [hk]; exact hb3)
    · cases h
  · cases h


theorem args_two {c : Call} {s j : Nat} (h : c.args.toList = [.tmp s, .tmp j]) (a : Act) : c.args.map a.eval = #[a.tmps.getD s undef, a.tmps.getD j undef] := by
  have : c.args = #[.tmp s, .tmp j] := Array.ext' (by simpa using h)
  rw [this]
  simp [Act.eval]

theorem put_self (d : Nat) (v : Value) (h : d < a.tmps.size) : (a.put (some d) v).tmps.getD d undef = v := by
  simp [Act.put, Array.getD_eq_getD_getElem?, h]

/-- One operation, as the evaluator with marks tells it. -/
theorem op_step3 (hC : CxOk P C) {i : Nat} {o : Oper} (ho : ops[i]? = some o) (hI : Inv w0 c0 U E a w G) (hR : RIL ops L E a.tmps) (hL : ∀ j w', o.guard = some (j, w') → L j) (hni : ¬ L i) (hgo : guardsOk ops = true)
    {tk : Nat} (h3 : 3 ≤ tk) (hU : ∀ u, tk ≤ u → u < tk + 32 → ¬ U u) {act : Option Bool} {ef : Ef} (hga : guardOf ops E.rd o.guard = some act) (hev : evOp C ops E.rd tk o.guard o = some ef)
    {k : Env → Option ρ} {r : ρ} (hap : applyEf3 o act E k ef = some r) {K : Act → World → Prop}
    (hK : ∀ E' a' w' G', k E' = some r → E'.s.length = E.s.length → Inv w0 c0 (fun u => U u ∨ (tk ≤ u ∧ u < tk + 32)) E' a' w' G' → RIL ops (fun j => L j ∨ j = i) E' a'.tmps → (∃ v, a' = a.put o.dst v) → K a' w') : wpOp P ops.toArray Q i K a w := by
  have hIm := hI.mono (U' := fun u => U u ∨ (tk ≤ u ∧ u < tk + 32)) (fun u hu => .inl hu)
  have old : applyEf2 o act E k ef = some r → wpOp P ops.toArray Q i K a w := by
    intro hap
    rw [applyEf2_eq, applyEf_bind, Option.bind_eq_some_iff] at hap
    obtain ⟨E', hs, hk⟩ := hap
    have hlen : E'.s.length = E.s.length := by
      cases ef with
      | val v => simp only [applyEf, Option.some.injEq] at hs; subst hs; exact set_len ..
      | chk c v =>
        simp only [applyEf] at hs
        split at hs
        · split at hs
          · simp only [Option.some.injEq] at hs; subst hs; exact set_len ..
          · cases hs
        · split at hs
          · simp only [Option.some.injEq] at hs; subst hs; exact set_len ..
          · cases hs
      | opt α z x f =>
        simp only [applyEf, Option.bind_eq_some_iff, Option.some.injEq] at hs
        obtain ⟨y, _, hs⟩ := hs; subst hs; exact set_len ..
      | put b s v =>
        simp only [applyEf] at hs
        split at hs
        · simp only [Option.some.injEq] at hs; subst hs; simp
        · cases hs
      | app c kl gv t v =>
        simp only [applyEf] at hs
        split at hs
        · split at hs
          · simp only [Option.some.injEq] at hs; subst hs; rw [set_len, give_len, kill_len]
          · cases hs
        · cases hs
      | elem gv b e l m =>
        simp only [applyEf] at hs
        split at hs
        · simp only [Option.some.injEq] at hs; subst hs; simp [Env.elem]
        · cases hs
      | nap c gv b e l m v =>
        simp only [applyEf] at hs
        split at hs
        · split at hs
          · simp only [Option.some.injEq] at hs; subst hs; rw [set_len]; simp [Env.elem]
          · cases hs
        · cases hs
      | call α x tks f rp =>
        simp only [applyEf] at hs
        split at hs
        · simp only [Option.bind_eq_some_iff, Option.some.injEq] at hs
          obtain ⟨y, _, hs⟩ := hs; subst hs; rw [set_len, putBoxes_len, killR_len]
        · cases hs
    exact op_step hC ho hI hR hL hni hgo h3 hU hga hev hs (fun a' w' G' g1 g2 g3 => hK E' a' w' G' hk hlen g1 g2 g3)
  unfold applyEf3 at hap
  split at hap
  · -- a guarded call
    rename_i α x tks f rp b
    cases hgd : o.guard with
    | none => rw [hgd] at hga; simp [guardOf] at hga
    | some p =>
      obtain ⟨j, w'⟩ := p
      rw [hgd] at hga hev
      obtain ⟨b', hb', hb⟩ := guardOf_ok hI hga
      cases hb'
      have hj := hL j w' hgd
      cases b with
      | true =>
        simp only [if_true, Option.bind_eq_some_iff] at hap
        obtain ⟨y, hy, hk⟩ := hap
        have hyl := hb.1 rfl
        have hwant : Region.wanted o (yielded ops.toArray a.tmps) = true := by simp [Region.wanted, hgd, hyl]
        have hS := evOp_ok hC hI hR.ri (g := some (j, w')) (by rintro j1 w1 ⟨⟩; exact hyl) h3 hU hev
        refine wpOp_of_value ho hwant ?_
        refine wp_of_enters (hS y hy) (fun mv w1 ⟨G', g1, g2, g3, g4⟩ => ?_)
        obtain ⟨k1, k2, k3⟩ := wrap_ok (j := j) (w' := w') g2 g3
        rw [hgd] at hk
        refine hK _ _ _ G' hk (by rw [set_len, putBoxes_len, killR_len]) ?_ ?_ ⟨_, rfl⟩
        · exact g1.put o.dst k1 k2.1 k2.2.1 k2.2.2 (fun t u e => absurd e (k3 t u))
        · refine RIL.put (E := { E.killR tks (rp y) with s := putBoxes (f y).2 (E.killR tks (rp y)).s }) (hR.map (fun s j w' act u h => killR_g (putBoxes_g h))) ho hgo hni hL (fun j1 w1 act v e => ?_)
          unfold wrapG at e
          simp only at e
          split at e
          · cases e
          · simp only [SV.g.injEq] at e
            obtain ⟨rfl, rfl, rfl, _⟩ := e
            exact ⟨⟨fun _ => hyl, fun _ => rfl⟩, hgd⟩
      | false =>
        simp only [Bool.false_eq_true, if_false] at hap
        have hyl : yielded ops.toArray a.tmps j ≠ some w' := fun h => by have := hb.2 h; cases this
        have hwant : Region.wanted o (yielded ops.toArray a.tmps) = false := by
          simp only [Region.wanted, hgd]
          simpa using hyl
        obtain ⟨k1, k2, k3⟩ := wrap_no (w := w) (G := G) (U := fun u => U u ∨ (tk ≤ u ∧ u < tk + 32)) (v := vB false) (j := j) (w' := w')
        rw [hgd] at hap
        unfold wpOp
        simp only [List.getElem?_toArray, ho, hwant, Bool.false_eq_true, if_false]
        refine hK _ _ _ G hap (set_len ..) ?_ ?_ ⟨_, rfl⟩
        · exact hIm.put o.dst k1 k2.1 k2.2.1 k2.2.2 (fun t u e => absurd e (k3 t u))
        · refine hR.put ho hgo hni hL (fun j1 w1 act v e => ?_)
          unfold wrapG at e
          simp only at e
          split at e
          · cases e
          · simp only [SV.g.injEq] at e
            obtain ⟨rfl, rfl, rfl, _⟩ := e
            exact ⟨⟨fun h => absurd h (by simp), fun h => absurd h hyl⟩, hgd⟩
  · -- an element that takes what is owned
    rename_i g0 gv b e l m
    split at hap
    · rename_i t x y hd hop
      cases hgd : o.guard with
      | some p =>
        rw [hgd] at hga
        obtain ⟨b', hb', _⟩ := guardOf_ok hI hga
        cases hb'
      | none =>
        rw [hgd] at hev
        have hwant : Region.wanted o (yielded ops.toArray a.tmps) = true := by simp [Region.wanted, hgd]
        refine wpOp_of_value ho hwant ?_
        obtain ⟨w1, G', h1, h2⟩ := elem2_ok hC.toCxTy hI hR.ri (g := none) (by rintro j w' ⟨⟩) hop (by simp) hev
        unfold Oper.wp
        rw [h1]
        refine hK _ _ _ G' hap (by simp [Env.elem2]) ?_ ?_ ⟨undef, rfl⟩
        · rw [hd]; exact h2.mono fun u hu => .inl hu
        · rw [hd]
          have := hR.map (E' := E.elem2 (g0 :: gv) b e l) (fun s j w' act u h => by
            have hh := getD_map (L := E.s) (T := fun s => ((s.killSha b).setRow b e l (.row b (b :: (g0 :: gv)) true)).give (g0 :: gv) b) rfl s
            simp only [Env.elem2] at h
            rw [hh] at h
            obtain ⟨v1, h1⟩ := mapM_g h
            obtain ⟨v2, h2⟩ := setRow_g h1
            exact mapM_g h2)
          intro s j w' act v hs
          obtain ⟨q1, q2, q3⟩ := this s j w' act v hs
          exact ⟨q1, .inl q2, q3⟩
    · cases hap
  · exact old hap

theorem evStps_ok (hC : CxOk P C) (hM : MTabOk P M) {io : List Nat} (hkp : keeps io ops = true) (hgo : guardsOk ops = true) {nt : Nat} (h3 : 3 ≤ nt) {k : Env → Option ρ} {r : ρ} : ∀ {l : List MStp} {i : Nat} {E : Env} {a : Act} {w : World} {G : Gh}, ops.drop i = l.flatMap MStp.ops → i + (l.flatMap MStp.ops).length = ops.length →
    Inv w0 c0 (fun u => u < nt + 32 * i) E a w G → RIL ops (fun j => j < i) E a.tmps → evStps C M ops nt l i E k = some r →
    (∀ E' a' w' G', Inv w0 c0 (fun u => u < nt + 32 * ops.length) E' a' w' G' → RIL ops (fun j => j < ops.length) E' a'.tmps → E'.s.length = E.s.length → (∀ i ∈ io, a'.tmps.getD i undef = a.tmps.getD i undef) → k E' = some r → Q .normal a' w') →
    wpOps P ops.toArray Q (List.range' i (l.flatMap MStp.ops).length) a w
  | [], i, E, a, w, G, hd, hl, hI, hR, h, hK => by
    have hi : i = ops.length := by simpa using hl
    subst hi
    exact hK E a w G hI hR rfl (fun _ _ => rfl) h
  | .one o :: l, i, E, a, w, G, hd, hl, hI, hR, h, hK => by
    simp only [List.flatMap_cons, MStp.ops, List.cons_append, List.nil_append] at hd
    simp only [List.flatMap_cons, MStp.ops, List.cons_append, List.nil_append, List.length_cons] at hl ⊢
    have ho : ops[i]? = some o := by
      have := congrArg List.head? hd
      simpa [List.head?_drop] using this
    have hd' : ops.drop (i + 1) = l.flatMap MStp.ops := by rw [← List.drop_drop, hd]; rfl
    simp only [evStps] at h
    rw [List.range'_succ, wpOps_cons]
    split at h
    · rename_i f m s j hc
      obtain ⟨hg, hm, c, hop, hcal, hargs⟩ := callOf_spec hc
      split at h
      · rename_i x sh n hA
        rw [Option.bind_eq_some_iff] at h
        obtain ⟨⟨kk, y⟩, hF, h⟩ := h
        unfold topA at hA
        split at hA
        · rename_i v n' shn hs hj
          split at hA
          · rename_i x' ts hx ho'
            cases hA
            have hv := hI.slots s
            have hgd := hI.ment s
            have hs' : E.s.getD s .no = .d v := hs
            rw [hs'] at hv hgd
            obtain ⟨cs, hcs, hvk⟩ := hv
            have e := castV_ok hx
            rw [e] at hcs hvk hgd ho'
            have hU := top_ok hI (hM f m hm) hvk hgd.1 ho' hF
            have hj' := slot_int hI hj
            have hwant : Region.wanted o (yielded ops.toArray a.tmps) = true := by simp [Region.wanted, hg]
            refine wpOp_of_value ho hwant (wp_of_upon hop hcal (R := fun mv w' => mv = Value.int .i64 kk ∧ ∃ G', Inv w0 c0 (fun u => u < nt + 32 * i) (E.mark (rowsOf m.τ y v.sh)) a w' G') ?_ (fun mv w' hh => ?_))
            · rw [args_two hargs, hcs, hj']; exact hU
            · obtain ⟨rfl, G', hI'⟩ := hh
              have hI2 := (hI'.putI o.dst kk).mono (U' := fun u => u < nt + 32 * (i + 1)) (fun u hu => by omega)
              refine evStps_ok hC hM hkp hgo h3 (l := l) (i := i + 1) hd' (by omega) hI2 (fun s j w1 act v he => absurd he (set_ng mark_noG (by rintro _ _ _ _ ⟨⟩) s j w1 act v)) h
                (fun E2 a2 w2 G2 g1 g2 g3 g5 g4 => hK E2 a2 w2 G2 g1 g2 (g3.trans ((set_len ..).trans (mark_len _))) (fun j hj => (g5 j hj).trans (keeps_put hkp (List.mem_of_getElem? ho) hj)) g4)
          · cases hA
        · cases hA
      · cases h
    · split at h
      · rename_i hun
        unfold untold at hun
        split at hun
        · rename_i cv hg hop
          have hwant : Region.wanted o (yielded ops.toArray a.tmps) = true := by simp [Region.wanted, hg]
          refine wpOp_of_value ho hwant ?_
          have hr1 : (execOp a.eval o).run P w = .ok (.value (a.eval (.const cv))) w := by
            simp only [execOp, hop]
            rfl
          unfold Oper.wp
          rw [hr1]
          show wpOps P ops.toArray Q _ _ _
          have hI2 := (hI.putNo o.dst (a.eval (.const cv))).mono (U' := fun u => u < nt + 32 * (i + 1)) (fun u hu => by omega)
          refine evStps_ok hC hM hkp hgo h3 (l := l) (i := i + 1) hd' (by omega) hI2 (fun s j w1 act v he => by
              obtain ⟨q1, q2, q3⟩ := hR.put ho hgo (by omega) (fun j w' hj => guardsOk_lt hgo ho hj) (sv := .no) (mv := a.eval (.const cv)) (by rintro _ _ _ _ ⟨⟩) s j w1 act v he
              exact ⟨q1, by rcases q2 with q2 | q2 <;> omega, q3⟩) h
            (fun E2 a2 w2 G2 g1 g2 g3 g5 g4 => hK E2 a2 w2 G2 g1 g2 (g3.trans (set_len ..)) (fun j hj => (g5 j hj).trans (keeps_put hkp (List.mem_of_getElem? ho) hj)) g4)
        · cases hun
      · split at h
        · cases h
        · rename_i act hga
          split at h
          · cases h
          · rename_i ef hev
            refine op_step3 hC ho hI hR (fun j w' hj => guardsOk_lt hgo ho hj) (by omega) hgo (tk := nt + 32 * i) (by omega) (fun u h1 h2 h => by omega) hga hev h (fun E' a' w' G' hk hlen hI' hR' ⟨v, hav⟩ => ?_)
            refine evStps_ok hC hM hkp hgo h3 (l := l) (i := i + 1) hd' (by omega) (hI'.mono (fun u hu => by rcases hu with hu | hu <;> omega))
              (fun s j w1 act v he => by
                obtain ⟨q1, q2, q3⟩ := hR' s j w1 act v he
                exact ⟨q1, by rcases q2 with q2 | q2 <;> omega, q3⟩) hk (fun E2 a2 w2 G2 g1 g2 g3 g5 g4 => hK E2 a2 w2 G2 g1 g2 (g3.trans hlen) (fun j hj => (g5 j hj).trans (by rw [hav]; exact keeps_put hkp (List.mem_of_getElem? ho) hj)) g4)
  | .nest o1 o2 o3 :: l, i, E, a, w, G, hd, hl, hI, hR, h, hK => by
    simp only [List.flatMap_cons, MStp.ops, List.cons_append, List.nil_append] at hd
    simp only [List.flatMap_cons, MStp.ops, List.cons_append, List.nil_append, List.length_cons] at hl ⊢
    have ho1 : ops[i]? = some o1 := by
      have := congrArg List.head? hd
      simpa [List.head?_drop] using this
    have hd1 : ops.drop (i + 1) = o2 :: o3 :: l.flatMap MStp.ops := by rw [← List.drop_drop, hd]; rfl
    have ho2 : ops[i + 1]? = some o2 := by
      have := congrArg List.head? hd1
      simpa [List.head?_drop] using this
    have hd2 : ops.drop (i + 1 + 1) = o3 :: l.flatMap MStp.ops := by rw [← List.drop_drop, hd1]; rfl
    have ho3 : ops[i + 1 + 1]? = some o3 := by
      have := congrArg List.head? hd2
      simpa [List.head?_drop] using this
    have hd3 : ops.drop (i + 3) = l.flatMap MStp.ops := by rw [show i + 3 = i + 1 + 1 + 1 by omega, ← List.drop_drop, hd2]; rfl
    simp only [evStps] at h
    split at h
    · rename_i f m t p q d1 d2 hn
      obtain ⟨g1, op1, ds1, g2, op2, ds2, hne, hqd, hc3⟩ := nestOf_spec hn
      obtain ⟨g3, hm, c, op3, hcal, hargs⟩ := callOf_spec hc3
      have three : ∀ (cs : List Value) (n kk : Int) (L' : List RowW), a.tmps.getD q undef = .int .i64 n → d1 < E.s.length → d2 < E.s.length → (execOp a.eval o1).run P w = .ok (.value (mkv m.τ cs)) w →
          Upon P f #[mkv m.τ cs, .int .i64 n] w (fun mv w' => mv = Value.int .i64 kk ∧ ∃ G', Inv w0 c0 (fun u => u < nt + 32 * i) (E.mark L') a w' G') →
          evStps C M ops nt l (i + 3) ((((E.mark L').set (some d1) .no).set (some d2) .no).set o3.dst (vI .i64 kk)) k = some r →
          wpOps P ops.toArray Q (List.range' i ((l.flatMap MStp.ops).length + 1 + 1 + 1)) a w := by
        intro cs n kk L' hqv hl1 hl2 hr1 hU h
        have hszE : a.tmps.size = E.s.length := hI.len
        rw [show (l.flatMap MStp.ops).length + 1 + 1 + 1 = ((l.flatMap MStp.ops).length + 1 + 1) + 1 from rfl, List.range'_succ, wpOps_cons]
        have hw1 : Region.wanted o1 (yielded ops.toArray a.tmps) = true := by simp [Region.wanted, g1]
        refine wpOp_of_value ho1 hw1 ?_
        unfold Oper.wp
        rw [hr1]
        show wpOps P ops.toArray Q _ _ _
        rw [List.range'_succ, wpOps_cons]
        have hw2 : Region.wanted o2 (yielded ops.toArray (a.put o1.dst (mkv m.τ cs)).tmps) = true := by simp [Region.wanted, g2]
        refine wpOp_of_value ho2 hw2 ?_
        have hr2 : (execOp (a.put o1.dst (mkv m.τ cs)).eval o2).run P w = .ok (.value (.int .i64 n)) w := by
          have := putI_act (a := a) (some d1) (mkv m.τ cs) q (by simpa using Ne.symm hqd)
          simp only [execOp, op2, Act.eval, ds1, this, hqv]
          rfl
        unfold Oper.wp
        rw [hr2]
        show wpOps P ops.toArray Q _ _ _
        rw [List.range'_succ, wpOps_cons]
        rw [ds1, ds2]
        have hw3 : Region.wanted o3 (yielded ops.toArray ((a.put (some d1) (mkv m.τ cs)).put (some d2) (.int .i64 n)).tmps) = true := by simp [Region.wanted, g3]
        refine wpOp_of_value ho3 hw3 (wp_of_upon op3 hcal (R := fun mv w' => mv = Value.int .i64 kk ∧ ∃ G', Inv w0 c0 (fun u => u < nt + 32 * i) (E.mark L') a w' G') ?_ (fun mv w' hh => ?_))
        · rw [args_two hargs, putI_act (some d2) _ d1 (by simpa using Ne.symm hne), put_self d1 _ (by rw [hszE]; exact hl1), put_self d2 _ (by rw [size_put, hszE]; exact hl2)]
          exact hU
        · obtain ⟨rfl, G', hI'⟩ := hh
          have hI2 := (((hI'.putNo (some d1) (mkv m.τ cs)).putNo (some d2) (.int .i64 n)).putI o3.dst kk).mono (U' := fun u => u < nt + 32 * (i + 3)) (fun u hu => by omega)
          have hz := evStps_ok hC hM hkp hgo h3 (l := l) (i := i + 3) hd3 (by omega) hI2 (fun s j w1 act v he => absurd he (set_ng (set_ng (set_ng mark_noG (by rintro _ _ _ _ ⟨⟩)) (by rintro _ _ _ _ ⟨⟩)) (by rintro _ _ _ _ ⟨⟩) s j w1 act v)) h
            (fun E2 a2 w2 G2 g1 g2 g3 g5 g4 => hK E2 a2 w2 G2 g1 g2 (g3.trans ((set_len ..).trans ((set_len ..).trans ((set_len ..).trans (mark_len _))))) (fun j hj => by
              rw [g5 j hj, keeps_put hkp (List.mem_of_getElem? ho3) hj]
              have k2 := keeps_put (a := a.put (some d1) (mkv m.τ cs)) hkp (List.mem_of_getElem? ho2) (v := .int .i64 n) hj
              have k1 := keeps_put (a := a) hkp (List.mem_of_getElem? ho1) (v := mkv m.τ cs) hj
              rw [ds2] at k2
              rw [ds1] at k1
              rw [k2, k1]) g4)
          exact hz
      split at h
      · split at h
        · rename_i x sh n hA
          rw [Option.bind_eq_some_iff] at h
          obtain ⟨⟨kk, y⟩, hF, h⟩ := h
          unfold ptrA at hA
          split at hA
          · rename_i ti b o path τ0 n' shn hti hp hq
            split at hA
            · rename_i sl v hbox
              split at hA
              · rename_i rr hcond hsub
                split at hA
                · rename_i x' ts hx hown
                  cases hA
                  simp only [Bool.and_eq_true, decide_eq_true_eq] at hcond
                  obtain ⟨⟨hoff, hτ⟩, hl1, hl2⟩ := hcond
                  have hsp := alias_sok (hI.slots p)
                  have hp' : alias_ (E.s.getD p .no) = .ptr b o path τ0 := hp
                  rw [hp'] at hsp
                  obtain ⟨bk, hb3, hhdr, hptr⟩ := hsp
                  obtain ⟨hslot, bk', c', el, q1, q2, q3, q4, q5, q6⟩ := hI.box (E := E) hbox
                  rw [q1] at hhdr
                  simp only [Value.pointer.injEq, Option.some.injEq, Addr.mk.injEq, and_true] at hhdr
                  subst hhdr
                  obtain ⟨r1, r2, r3, r4⟩ := VOk.sub hsub q5
                  have e := castV_ok hx
                  generalize hrs : rr.sh = rsh at e hown h
                  rw [e] at r1 r2 r4
                  have hlen := VOk.len q5
                  simp only [Array.length_toList] at hlen
                  have hT := (hC.tt t ti hti).1
                  rw [hτ] at hT
                  have hrun := run_loadVar' (P := P) hT q4 (o := o) (by rw [← hoff, hlen]; exact r2)
                  have hr1 : (execOp a.eval o1).run P w = .ok (.value (mkv m.τ ((c'.toList.drop o).take m.τ.sz))) w := by
                    simp only [execOp, op1]
                    refine run_v ?_
                    simp only [Instr.loadAt, Act.eval, hptr, Instr.sureAddr]
                    simpa using hrun
                  rw [hoff] at r1
                  exact three _ n kk _ (slot_int hI hq) hl1 hl2 hr1 (top_ok hI (hM f m hm) r1 (fun c hc => q6 c (r4 c hc)) hown hF) h
                · cases hA
              · cases hA
            · cases hA
          · cases hA
        · cases h
      · split at h
        · rename_i d hA
          rw [Option.bind_eq_some_iff] at h
          obtain ⟨⟨kk, y⟩, hF, h⟩ := h
          split at h
          · rename_i yy hput
            unfold nestA at hA
            split at hA
            · rename_i ti b e ii o path τ0 n shn hti hp hq
              split at hA
              · rename_i ll hs nd hrow
                split at hA
                · rename_i rr hcond hsub
                  split at hA
                  · rename_i x hx
                    cases hA
                    simp only [Bool.and_eq_true, decide_eq_true_eq] at hcond
                    obtain ⟨⟨⟨⟨hnd, hhs⟩, hoff⟩, hτ⟩, hl1, hl2⟩ := hcond
                    subst hnd
                    have hsp := hI.slots p
                    have hp' : E.s.getD p .no = .ept b e ii o path τ0 := hp
                    rw [hp'] at hsp
                    obtain ⟨bk, of, nn, cap, hb3, hhdr, hi0, hin, hptr⟩ := hsp
                    have hlt : ii.toNat < nn := toNat_lt hi0 hin
                    obtain ⟨⟨cc, el, fz, hheap, hsz⟩, hU⟩ := nest_ok hI (hM f m hm) hrow hhs hhdr hlt hsub hx hF hput
                    have hT := (hC.tt t ti hti).1
                    rw [hτ] at hT
                    rw [hoff] at hsz hU
                    have hrun := run_loadVar' (P := P) hT hheap (o := of + ii.toNat * e.sz + o) hsz
                    have hcell : cellsOf w bk (of + ii.toNat * e.sz + o) m.τ.sz = (cc.toList.drop (of + ii.toNat * e.sz + o)).take m.τ.sz := by
                      unfold cellsOf; rw [hheap]
                    rw [hcell] at hU
                    have hr1 : (execOp a.eval o1).run P w = .ok (.value (mkv m.τ ((cc.toList.drop (of + ii.toNat * e.sz + o)).take m.τ.sz))) w := by
                      simp only [execOp, op1]
                      refine run_v ?_
                      simp only [Instr.loadAt, Act.eval, hptr, Instr.sureAddr]
                      simpa using hrun
                    exact three _ n kk _ (slot_int hI hq) hl1 hl2 hr1 hU h
                  · cases hA
                · cases hA
              · cases hA
            · cases hA
          · cases h
        · cases h
    · cases h

end
end Vg

/- VG, part 65: whole code and whole functions, with calls that write into what they are handed. -/
namespace Vg
open Go

section
variable {P : Program} {C : Cx} {M : MTab} {w0 : World} {c0 : C0} {U : Nat → Prop} {E : Env} {a : Act} {w : World} {G : Gh} {ops : List Oper} {L : Nat → Prop} {Q : Exit → Act → World → Prop} {ρ : Type}

theorem evM_ok (hC : CxOk P C) (hM : MTabOk P M) {r : ρ} {T : Nat → Value} : ∀ (c : Code) {E : Env} {a : Act} {w : World} {G : Gh} {kn kr : Env → Option ρ} {ke : List (Nat × (Env → Option ρ))} {Q : Exit → Act → World → Prop},
    Inv w0 c0 (fun u => u < E.nt) E a w G → NoG E.s → E.s.length = C.n → 3 ≤ E.nt → (∀ i ∈ C.io, a.tmps.getD i undef = T i) → evM C M c E kn ke kr = some r → KOk C w0 c0 T r kn (Q .normal) → (∀ id k, ke.lookup id = some k → KOk C w0 c0 T r k (Q (.exit id))) → KOk C w0 c0 T r kr (Q .ret) →
    c.wp P Q a w := by
  intro c
  induction c with
  | skip => intro E a w G kn kr ke Q hI hg hl h3 hT h hn he hr; exact wp_skip (hn E a w G hI hg hl h3 hT h)
  | region id ops draw =>
    intro E a w G kn kr ke Q hI hg hl h3 hT h hn' he hr
    simp only [evM] at h
    split at h
    · rename_i hc
      simp only [Bool.and_eq_true] at hc
      obtain ⟨hgo, hkp⟩ := hc
      have fin : ∀ E' a' w' G', Inv w0 c0 (fun u => u < E.nt + 32 * ops.toList.length) E' a' w' G' → RIL ops.toList (fun j => j < ops.toList.length) E' a'.tmps → E'.s.length = E.s.length → (∀ i ∈ C.io, a'.tmps.getD i undef = a.tmps.getD i undef) →
          kn { clearG E' ops.toList with nt := E.nt + 32 * ops.size } = some r → Q .normal a' w' := by
        intro E' a' w' G' g1 g2 g3 g5 g4
        obtain ⟨k1, k2, k3⟩ := clearG_ok g1 g2
        refine hn' { clearG E' ops.toList with nt := E.nt + 32 * ops.size } a' w' G' ?_ k2 (by rw [k3, g3, hl]) (by show 3 ≤ E.nt + 32 * ops.size; omega) (fun i hi => (g5 i hi).trans (hT i hi)) g4
        simpa using k1
      split at h
      · split at h
        · rename_i d hd
          have hn : 0 < ops.size := by
            rcases Nat.eq_zero_or_pos ops.size with h0 | h0
            · have : ops = #[] := Array.eq_empty_of_size_eq_zero h0
              subst this
              simp [delOf] at hd
            · exact h0
          exact delStep_ok hC.toCxTy hC.mixed hI hg h3 hd hn hkp h (fun E' a' w' G' g1 g2 g3 g4 g5 g6 => hn' E' a' w' G' g1 g2 (g3.trans hl) g4 (fun i hi => (g5 i hi).trans (hT i hi)) g6)
        simp only [evOpsL2_eq] at h
        exact evOpsL_ok (ops := ops.toList) hC.mixed hC hkp hgo h3 hI hg (k := fun E' => kn { clearG E' ops.toList with nt := E.nt + 32 * ops.size }) (by
          rw [← h]; congr 1; funext E' L; cases labsOk ops.toList L <;> rfl) fin
      · refine wp_region ?_
        have hfl := steps_ops M ops.toList
        have := evStps_ok (Q := Q) hC hM hkp hgo h3 (l := steps M ops.toList) (i := 0) (by rw [hfl]; simp) (by rw [hfl]; simp) (by simpa using hI) (fun s j w1 act v he => absurd he (hg s j w1 act v)) h fin
        rw [list_range_add]
        rw [hfl] at this
        simpa using this
    · cases h
  | seq x y ihx ihy =>
    intro E a w G kn kr ke Q hI hg hl h3 hT h hn he hr
    refine wp_seq ?_
    simp only [evM] at h
    split at h
    · refine ihx (Q := Exit.then (y.wp P Q) Q) hI hg hl h3 hT h (fun E' a' w' G' g1 g2 g3 g4 gT g5 => ?_) he hr
      exact ihy g1 g2 g3 g4 gT g5 hn he hr
    · rename_i n _
      simp only [joinC] at h
      refine ihx (Q := Exit.then (y.wp P Q) Q) hI hg hl h3 hT h (fun E' a' w' G' g1 g2 g3 g4 gT g5 => ?_) he hr
      split at g5
      · rename_i t ht
        obtain ⟨G2, k1, k2, k3, k4⟩ := proj_ok g1 g3 ht
        exact ihy k1 k2 k3 k4 gT g5 hn he hr
      · cases g5
  | cond c x y ihx ihy =>
    intro E a w G kn kr ke Q hI hg hl h3 hT h hn he hr
    simp only [evM] at h
    split at h
    · rename_i b sh hb
      have hR : RI ([] : List Oper) E a.tmps := fun s j w1 act v he => absurd he (hg s j w1 act v)
      obtain ⟨⟨cs, h1, h2⟩, _⟩ := arg_ok hI hR (g := none) (by rintro j w' ⟨⟩) hb
      have hev : a.eval c = .bool b := by
        cases sh with
        | leaf => rw [h1, show cs = _ from h2]; rfl
        | sl m => exact h2.elim
        | pair a b => exact h2.elim
      refine wp_cond hev ?_
      split at h
      · rename_i hb; subst hb; exact ihx hI hg hl h3 hT h hn he hr
      · rename_i hb
        have : b = false := by simpa using hb
        subst this
        exact ihy hI hg hl h3 hT h hn he hr
    · cases h
  | block id c ih =>
    intro E a w G kn kr ke Q hI hg hl h3 hT h hn he hr
    refine wp_block ?_
    simp only [evM] at h
    refine ih (Q := Exit.inBlock id Q) hI hg hl h3 hT h hn (fun i k hk => ?_) hr
    rw [lookup_cons_block] at hk
    intro E2 a2 w2 G2 g1 g2 g3 g4 gT g5
    show Exit.inBlock id Q (.exit i) a2 w2
    simp only [Exit.inBlock]
    split at hk
    · rename_i e
      simp only [Option.some.injEq] at hk
      subst hk
      simp only [e, if_true]
      exact hn E2 a2 w2 G2 g1 g2 g3 g4 gT g5
    · rename_i e
      simp only [e, if_false]
      exact he i k hk E2 a2 w2 G2 g1 g2 g3 g4 gT g5
  | loop c ih =>
    intro E a w G kn kr ke Q hI hg hl h3 hT h hn he hr
    simp only [evM] at h
    split at h
    · cases h
    · rename_i n _
      have hq : ∃ t, proj n E = some t ∧ loopN C.k (fun G t => evM C M c (unproj C.n n t) (fun E' => match proj n E' with | some t => G t | none => none) ke kr) t = some r := by
        split at h
        · rename_i t ht; exact ⟨t, ht, h⟩
        · cases h
      obtain ⟨t, ht, h⟩ := hq
      obtain ⟨G2, k1, k2, k3, k4⟩ := proj_ok hI hl ht
      refine wp_loop_rounds C.k ?_
      have key : ∀ (m : Nat) (t : TupD (annTys n.ks)) (a : Act) (w : World) (G : Gh), loopN m (fun G t => evM C M c (unproj C.n n t) (fun E' => match proj n E' with | some t => G t | none => none) ke kr) t = some r →
          Inv w0 c0 (fun u => u < (unproj C.n n t).nt) (unproj C.n n t) a w G → NoG (unproj C.n n t).s → (unproj C.n n t).s.length = C.n → 3 ≤ (unproj C.n n t).nt → (∀ i ∈ C.io, a.tmps.getD i undef = T i) → Code.rounds P c Q m a w := by
        intro m
        induction m with
        | zero => intro t a w G h; simp [loopN] at h
        | succ m ihm =>
          intro t a w G h g1 g2 g3 g4 gT
          rw [rounds_succ]
          simp only [loopN] at h
          refine ih (Q := Exit.then (Code.rounds P c Q m) Q) g1 g2 g3 g4 gT h (fun E' a' w' G' q1 q2 q3 q4 qT q5 => ?_) he hr
          split at q5
          · rename_i t' ht'
            obtain ⟨G3, p1, p2, p3, p4⟩ := proj_ok q1 q3 ht'
            exact ihm t' a' w' G3 q5 p1 p2 p3 p4 qT
          · cases q5
      exact key C.k t a w G2 h k1 k2 k3 k4 hT
  | exit id =>
    intro E a w G kn kr ke Q hI hg hl h3 hT h hn he hr
    simp only [evM] at h
    split at h
    · rename_i k hk
      exact wp_exit (he id k hk E a w G hI hg hl h3 hT h)
    · cases h
  | ret => intro E a w G kn kr ke Q hI hg hl h3 hT h hn he hr; exact wp_ret (hr E a w G hI hg hl h3 hT h)
  | _ => intro E a w G kn kr ke Q hI hg hl h3 hT h hn he hr; simp [evM] at h


end
end Vg

/- VG, part 45: closed checks of a table of types. -/
namespace Vg
open Go

def cellB : Value → Value → Bool
  | .int k n, .int k' n' => k == k' && n == n'
  | .bool b, .bool b' => b == b'
  | .string a, .string b => a.size == 0 && b.size == 0
  | .slice none l c, .slice none l' c' => l == l' && c == c'
  | _, _ => false

def cellsB : List Value → List Value → Bool
  | [], [] => true
  | a :: l, b :: m => cellB a b && cellsB l m
  | _, _ => false

def zeroB : Ty → Value → Bool
  | .pair a b, .agg cs => cellsB cs.toList (Ty.pair a b).zero
  | .pair _ _, _ => false
  | τ, v => cellsB [v] τ.zero

theorem size0 {a : ByteArray} (h : a.size = 0) : a = ByteArray.empty := by
  cases a with
  | mk d =>
    have : d.size = 0 := h
    have : d = #[] := Array.eq_empty_of_size_eq_zero this
    rw [this]; rfl

theorem cellB_ok {a b : Value} (h : cellB a b = true) : a = b := by
  unfold cellB at h
  split at h
  · simp only [Bool.and_eq_true, beq_iff_eq] at h; rw [h.1, h.2]
  · simp only [beq_iff_eq] at h; rw [h]
  · simp only [Bool.and_eq_true, beq_iff_eq] at h; rw [size0 h.1, size0 h.2]
  · simp only [Bool.and_eq_true, beq_iff_eq] at h; rw [h.1, h.2]
  · cases h

theorem cellsB_ok : ∀ {l m : List Value}, cellsB l m = true → l = m
  | [], [], _ => rfl
  | a :: l, b :: m, h => by
    simp only [cellsB, Bool.and_eq_true] at h
    rw [cellB_ok h.1, cellsB_ok h.2]
  | [], _ :: _, h | _ :: _, [], h => by simp [cellsB] at h

theorem zeroB_ok {τ : Ty} {v : Value} (h : zeroB τ v = true) : v = mkv τ τ.zero := by
  cases τ with
  | pair a b =>
    cases v with
    | agg cs =>
      have := cellsB_ok (show cellsB cs.toList (Ty.pair a b).zero = true from h)
      simp only [mkv, ← this, Array.toArray_toList]
    | _ => simp [zeroB] at h
  | int k => have := cellsB_ok (show cellsB [v] (Ty.int k).zero = true from h); simpa [mkv, Ty.zero] using this
  | bool => have := cellsB_ok (show cellsB [v] Ty.bool.zero = true from h); simpa [mkv, Ty.zero] using this
  | str => have := cellsB_ok (show cellsB [v] Ty.str.zero = true from h); simpa [mkv, Ty.zero] using this
  | sl e => have := cellsB_ok (show cellsB [v] (Ty.sl e).zero = true from h); simpa [mkv, Ty.zero] using this

def isAggD : TypeDesc → Bool
  | .struct _ | .array _ _ => true
  | _ => false

def factsB (P : Program) (t : TypeId) (τ : Ty) : Bool :=
  match P.info? t, P.underlying t with
  | some inf, some d => inf.size == τ.sz && (match inf.zero with | some v => zeroB τ v | none => false) && decide (inf.bytes ≤ 32768) && isAggD d == τ.isPair
  | _, _ => false

theorem factsB_ok {P : Program} {t : TypeId} {τ : Ty} (h : factsB P t τ = true) : TyFacts P t τ := by
  unfold factsB at h
  split at h
  · rename_i inf d h1 h2
    simp only [Bool.and_eq_true, beq_iff_eq, decide_eq_true_eq] at h
    obtain ⟨⟨⟨h3, h4⟩, h5⟩, h6⟩ := h
    refine ⟨inf, d, h1, h3, ?_, h5, h2, ?_⟩
    · split at h4
      · rename_i v hv
        rw [hv, zeroB_ok h4]
      · cases h4
    · rw [← h6]
      cases d <;> rfl
  · cases h

def fieldB (P : Program) (τ : Ty) (fs : List TypeId) (j : Nat) (f : Field) : Bool :=
  f.offset == τ.off (fpath fs.length j) && fs[j]? == some f.type && (match τ.sub (fpath fs.length j) with | some σ => factsB P f.type σ | none => false)

theorem fieldB_ok {P : Program} {τ : Ty} {fs : List TypeId} {j : Nat} {f : Field} (h : fieldB P τ fs j f = true) : FieldOk P τ fs j f := by
  simp only [fieldB, Bool.and_eq_true, beq_iff_eq] at h
  obtain ⟨⟨h1, h2⟩, h3⟩ := h
  refine ⟨h1, h2, ?_⟩
  split at h3
  · rename_i σ hs
    exact ⟨σ, hs, factsB_ok h3⟩
  · cases h3

/-- Fields of a struct whose values may be compared. -/
def eqFs (P : Program) (chk : Ty → TypeId → Bool) : Ty → List Field → Nat → Bool
  | τ, [f], off => f.offset == off && f.name != "_" && factsB P f.type τ && chk τ f.type
  | .pair a b, f :: g :: l, off => f.offset == off && f.name != "_" && factsB P f.type a && chk a f.type && eqFs P chk b (g :: l) (off + a.sz)
  | _, _, _ => false

def eqN (P : Program) : Nat → Ty → TypeId → Bool
  | 0, _, _ => false
  | n + 1, τ, t =>
    match P.underlying t with
    | some (.int k) => τ == .int k
    | some .bool => τ == .bool
    | some .string => τ == .str
    | some (.struct fs) => τ.isPair && !P.stoodInHeld t && eqFs P (eqN P n) τ fs.toList 0
    | _ => false

section
variable {P : Program}

theorem run_part_ {w : World} {t : TypeId} {τ : Ty} (h : TyFacts P t τ) {cs : Array Value} {off : Nat} (ho : off + τ.sz ≤ cs.size) :
    (part t cs off).run P w = .ok (mkv τ ((cs.toList.drop off).take τ.sz)) w := by
  unfold part
  rw [Sem.run_bind, run_isAgg h, Result.andThen_ok]
  cases hp : τ.isPair with
  | true =>
    cases τ with
    | pair a b =>
      simp [run_sizeOf' h, mkv, Array.toList_extract, List.extract]
      apply Array.ext'
      simp [Array.toList_extract, List.extract]
    | _ => simp [Ty.isPair] at hp
  | false =>
    have hsz : τ.sz = 1 := by cases τ <;> first | rfl | simp [Ty.isPair] at hp
    rw [hsz] at ho
    have hg : cs[off]? = some cs[off] := Array.getElem?_eq_getElem (by omega)
    simp only [Bool.false_eq_true, if_false, hg, Sem.run_pure]
    have : (cs.toList.drop off).take τ.sz = [cs[off]] := by
      rw [hsz, List.take_one, List.head?_drop]
      simp [hg]
    rw [this]
    cases τ <;> first | rfl | simp [Ty.isPair] at hp

theorem beq_bytes (a b : ByteArray) : (a == b) = (a.toList == b.toList) := by
  rw [Bool.eq_iff_iff]
  simp only [beq_iff_eq, ByteArray.toList_eq]
  constructor
  · intro h
    have : (a.data == b.data) = true := h
    simp only [beq_iff_eq] at this
    rw [this]
  · intro h
    have h' : a.data = b.data := by
      have := congrArg List.toArray h
      simpa using this
    show (a.data == b.data) = true
    simp [h']

theorem eq_fields {w : World} {chk : Ty → TypeId → Bool} {d : Nat}
    (hchk : ∀ {τ : Ty} {t : TypeId} {a b : τ.den} {c1 c2 : List Value}, chk τ t = true → Rep w τ a c1 [] → Rep w τ b c2 [] → (Op.equalIn d t (mkv τ c1) (mkv τ c2)).run P w = .ok (eqv τ a b) w) {xs ys : Array Value} :
    ∀ {fs : List Field} {τ : Ty} {off : Nat} {a b : τ.den}, eqFs P chk τ fs off = true → Rep w τ a (xs.toList.drop off) [] → Rep w τ b (ys.toList.drop off) [] →
    ∃ r, (Sem.run P (forIn fs ((none, ()) : Option Bool × Unit) fun f __s => if f.name = "_" then pure (ForInStep.yield (none, ())) else do
              let __do_lift ← part f.type xs f.offset
              let __do_lift_1 ← part f.type ys f.offset
              let __do_lift ← Op.equalIn d f.type __do_lift __do_lift_1
              if __do_lift = false then pure (ForInStep.done (some false, ())) else pure (ForInStep.yield (none, ()))) w) = .ok r w ∧ r = (if eqv τ a b = true then none else some false, ())
  | [], τ, _, _, _, h, _, _ => by cases τ <;> simp [eqFs] at h
  | [f], τ, off, a, b, h, ha, hb => by
    have h : (f.offset == off && f.name != "_" && factsB P f.type τ && chk τ f.type) = true := by cases τ <;> exact h
    simp only [Bool.and_eq_true, beq_iff_eq, bne_iff_ne, ne_eq] at h
    obtain ⟨⟨⟨h1, h2⟩, h3⟩, h4⟩ := h
    have hf := factsB_ok h3
    have l1 := ha.len
    have l2 := hb.len
    simp only [List.length_drop, Array.length_toList] at l1 l2
    have hpos := τ.sz_pos
    have e1 : (xs.toList.drop off).take τ.sz = xs.toList.drop off := List.take_of_length_le (by simp; omega)
    have e2 : (ys.toList.drop off).take τ.sz = ys.toList.drop off := List.take_of_length_le (by simp; omega)
    simp only [List.forIn_cons, h2, if_false, h1, Sem.run_bind, run_part_ hf (show off + τ.sz ≤ xs.size by omega), run_part_ hf (show off + τ.sz ≤ ys.size by omega), Result.andThen_ok, e1, e2, hchk h4 ha hb]
    cases eqv τ a b <;> simp
  | f :: g :: l, τ, off, a, b, h, ha, hb => by
    cases τ with
    | pair τ1 τ2 =>
      simp only [eqFs, Bool.and_eq_true, beq_iff_eq, bne_iff_ne, ne_eq] at h
      obtain ⟨⟨⟨⟨h1, h2⟩, h3⟩, h4⟩, h5⟩ := h
      have hf := factsB_ok h3
      obtain ⟨c1, c2, B1, B2, q1, q2, r1, r2⟩ := ha
      obtain ⟨d1, d2, D1, D2, p1, p2, s1, s2⟩ := hb
      obtain ⟨rfl, rfl⟩ := List.append_eq_nil_iff.1 q2.symm
      obtain ⟨rfl, rfl⟩ := List.append_eq_nil_iff.1 p2.symm
      have l1 := r1.len
      have l2 := s1.len
      have t1 : (xs.toList.drop off).take τ1.sz = c1 := by rw [q1, ← l1, List.take_left]
      have t2 : (ys.toList.drop off).take τ1.sz = d1 := by rw [p1, ← l2, List.take_left]
      have u1 : xs.toList.drop (off + τ1.sz) = c2 := by rw [← List.drop_drop, q1, ← l1, List.drop_left]
      have u2 : ys.toList.drop (off + τ1.sz) = d2 := by rw [← List.drop_drop, p1, ← l2, List.drop_left]
      have z1 : off + τ1.sz ≤ xs.size := by
        have := congrArg List.length q1
        simp only [List.length_drop, Array.length_toList, List.length_append, l1] at this
        have := τ1.sz_pos; omega
      have z2 : off + τ1.sz ≤ ys.size := by
        have := congrArg List.length p1
        simp only [List.length_drop, Array.length_toList, List.length_append, l2] at this
        have := τ1.sz_pos; omega
      obtain ⟨r, k1, k2⟩ := eq_fields hchk (xs := xs) (ys := ys) h5 (by rw [u1]; exact r2) (by rw [u2]; exact s2)
      rw [List.forIn_cons]
      simp only [h2, if_false, h1, Sem.run_bind, run_part_ hf z1, run_part_ hf z2, Result.andThen_ok, t1, t2, hchk h4 r1 s1, eqv]
      rcases Bool.eq_false_or_eq_true (eqv τ1 a.1 b.1) with he | he
      · simp only [he, Bool.true_eq_false, if_false, Sem.run_pure, Result.andThen_ok, Bool.true_and]
        exact ⟨r, k1, k2⟩
      · simp [he]
    | _ => simp [eqFs] at h

theorem eq_in {w : World} : ∀ (n d : Nat) {τ : Ty} {t : TypeId} {a b : τ.den} {c1 c2 : List Value}, n ≤ d → eqN P n τ t = true → Rep w τ a c1 [] → Rep w τ b c2 [] → (Op.equalIn d t (mkv τ c1) (mkv τ c2)).run P w = .ok (eqv τ a b) w := by
  intro n
  induction n with
  | zero => intro d τ t a b c1 c2 _ h; simp [eqN] at h
  | succ n ih =>
    intro d τ t a b c1 c2 hd h ha hb
    obtain ⟨d, rfl⟩ : ∃ e, d = e + 1 := ⟨d - 1, by omega⟩
    simp only [eqN] at h
    split at h
    · rename_i k hu
      simp only [beq_iff_eq] at h
      subst h
      obtain ⟨rfl, _⟩ := ha
      obtain ⟨rfl, _⟩ := hb
      simp [Op.equalIn, run_underlying hu, mkv, eqv]
    · rename_i hu
      simp only [beq_iff_eq] at h
      subst h
      obtain ⟨rfl, _⟩ := ha
      obtain ⟨rfl, _⟩ := hb
      simp [Op.equalIn, run_underlying hu, mkv, eqv]
    · rename_i hu
      simp only [beq_iff_eq] at h
      subst h
      obtain ⟨rfl, _⟩ := ha
      obtain ⟨rfl, _⟩ := hb
      simp [Op.equalIn, run_underlying hu, mkv, eqv, beq_bytes]
    · rename_i fs hu
      simp only [Bool.and_eq_true, Bool.not_eq_true'] at h
      obtain ⟨⟨hp, hs⟩, hf⟩ := h
      cases τ with
      | pair τ1 τ2 =>
        simp only [mkv]
        obtain ⟨r, k1, k2⟩ := eq_fields (P := P) (w := w) (d := d) (xs := c1.toArray) (ys := c2.toArray) (fun h ha hb => ih d (by omega) h ha hb) hf (by simpa using ha) (by simpa using hb)
        simp [Op.equalIn, run_underlying hu, hs]
        rw [← Array.forIn_toList, k1, k2, Result.andThen_ok]
        cases eqv (τ1.pair τ2) a b <;> simp
      | _ => simp [Ty.isPair] at hp
    · cases h

theorem eqOk_of {t : TypeId} {τ : Ty} {n : Nat} (hn : n ≤ 10000) (hp : τ.isPair = true) (h : eqN P n τ t = true) (hg : P.eqGuardType P.depth t = false) : EqOk P t τ := by
  intro w op x y a b c1 c2 hop ha hb
  have he := eq_in n Op.maxDepth hn h ha hb
  cases τ with
  | pair τ1 τ2 =>
    simp only [mkv] at he ⊢
    rcases hop with rfl | rfl
    · simp [eqGuard, hg, binOp, Op.equal, he]
    · simp [eqGuard, hg, binOp, Op.equal, he]
  | _ => simp [Ty.isPair] at hp

/-- One row of a table. -/
def tyB (P : Program) (t : TypeId) (i : TI) : Bool :=
  factsB P t i.τ && (match i.τ, P.underlying t with
    | .int k, some (.int k') => k == k'
    | .bool, some .bool => true
    | .str, some .string => true
    | .sl e, some (.slice el) => el == i.el && factsB P el e && (if e == .int .u8 then (match P.underlying el with | some (.int .u8) => true | _ => false) else true)
    | .pair a b, some (.struct fields) => fields.size == i.fs.length && fields.toList.zipIdx.all (fun p => fieldB P (.pair a b) i.fs p.2 p.1) &&
        (if (Ty.pair a b).flat then eqN P 20 (.pair a b) t && !P.eqGuardType P.depth t else true)
    | _, _ => false) && (i.τ.isPair || i.fs.isEmpty)

theorem tyB_ok {t : TypeId} {i : TI} (h : tyB P t i = true) :
    TyOk P t i ∧ (i.τ.isPair = true → i.τ.flat = true → EqOk P t i.τ) ∧ (i.τ.isPair = false → i.fs = []) ∧ (i.τ = .sl (.int .u8) → P.underlying i.el = some (.int .u8)) := by
  obtain ⟨τ, fs, el⟩ := i
  simp only [tyB, Bool.and_eq_true, Bool.or_eq_true] at h
  obtain ⟨⟨h1, h2⟩, h3⟩ := h
  have hf := factsB_ok h1
  cases τ with
  | int k =>
    cases hu : P.underlying t with
    | none => rw [hu] at h2; simp at h2
    | some d =>
      rw [hu] at h2
      cases d <;> simp at h2
      subst h2
      exact ⟨⟨hf, hu⟩, by simp [Ty.isPair], by simpa [Ty.isPair] using h3, by simp⟩
  | bool =>
    cases hu : P.underlying t with
    | none => rw [hu] at h2; simp at h2
    | some d =>
      rw [hu] at h2
      cases d <;> simp at h2
      exact ⟨⟨hf, hu⟩, by simp [Ty.isPair], by simpa [Ty.isPair] using h3, by simp⟩
  | str =>
    cases hu : P.underlying t with
    | none => rw [hu] at h2; simp at h2
    | some d =>
      rw [hu] at h2
      cases d <;> simp at h2
      exact ⟨⟨hf, hu⟩, by simp [Ty.isPair], by simpa [Ty.isPair] using h3, by simp⟩
  | sl e =>
    cases hu : P.underlying t with
    | none => rw [hu] at h2; simp at h2
    | some d =>
      rw [hu] at h2
      cases d <;> simp only [Bool.and_eq_true, beq_iff_eq, Bool.false_eq_true] at h2
      obtain ⟨⟨rfl, h4⟩, h5⟩ := h2
      refine ⟨⟨hf, hu, factsB_ok h4⟩, by simp [Ty.isPair], by simpa [Ty.isPair] using h3, fun he => ?_⟩
      simp only [Ty.sl.injEq] at he
      subst he
      simp only [if_true] at h5
      split at h5
      · assumption
      · cases h5
  | pair a b =>
    cases hu : P.underlying t with
    | none => rw [hu] at h2; simp at h2
    | some d =>
      rw [hu] at h2
      cases d with
      | struct fields =>
        simp only [Bool.and_eq_true, beq_iff_eq] at h2
        obtain ⟨⟨h4, h5⟩, h6⟩ := h2
        refine ⟨⟨hf, fields, hu, h4, fun j f hj => ?_⟩, fun _ hfl => ?_, by simp [Ty.isPair], by simp⟩
        · rw [List.all_eq_true] at h5
          exact fieldB_ok (h5 (f, j) (List.mem_zipIdx_iff_getElem?.2 (by simpa using hj)))
        · rw [if_pos hfl] at h6
          simp only [Bool.and_eq_true, Bool.not_eq_true'] at h6
          exact eqOk_of (by omega) rfl h6.1 h6.2
      | _ => simp at h2

theorem lookup_mem' {α : Type} : ∀ {l : List (Nat × α)} {a : Nat} {b : α}, l.lookup a = some b → (a, b) ∈ l
  | [], _, _, h => by simp [List.lookup] at h
  | (x, y) :: l, a, b, h => by
    simp only [List.lookup] at h
    split at h
    · rename_i e
      simp only [beq_iff_eq] at e
      simp only [Option.some.injEq] at h
      subst e h; simp
    · exact List.mem_cons_of_mem _ (lookup_mem' h)

theorem cxTy_of {C : Cx} {l : List (Nat × TI)} (hl : l.all (fun p => tyB P p.1 p.2) = true) (hC : C.tt = fun t => l.lookup t) : CxTy P C := by
  have : ∀ t i, C.tt t = some i → tyB P t i = true := by
    intro t i h
    rw [hC] at h
    exact List.all_eq_true.1 hl (t, i) (lookup_mem' h)
  exact ⟨fun t i h => (tyB_ok (this t i h)).1, fun t i h => (tyB_ok (this t i h)).2.1, fun t i h => (tyB_ok (this t i h)).2.2.1, fun t i h => (tyB_ok (this t i h)).2.2.2⟩

end
end Vg

/- VG, part 49: what a printed text leans on. -/
namespace Vg
open Go

def mkCx (tt : List (Nat × TI)) (cts : List (FuncId × Con)) (la ja : Nat → Option Ann) (k : Nat) : Cx :=
  ⟨fun t => tt.lookup t, fun f => cts.lookup f, la, ja, k, 0, []⟩

def AllM (P : Program) : List (FuncId × Con) → Prop
  | [] => True
  | p :: l => Meets P p.1 p.2 ∧ AllM P l

theorem AllM.mem {P : Program} : ∀ {l : List (FuncId × Con)}, AllM P l → ∀ p ∈ l, Meets P p.1 p.2
  | [], _, _, h => by cases h
  | q :: l, ⟨h1, h2⟩, p, h => by
    rcases List.mem_cons.1 h with rfl | h
    · exact h1
    · exact AllM.mem h2 p h

theorem cx_ok {P : Program} {tt : List (Nat × TI)} (h1 : tt.all (fun p => tyB P p.1 p.2) = true) (hm : P.follows .mixedOrders = true) {cts : List (FuncId × Con)} (hc : AllM P cts) {la ja : Nat → Option Ann} {k : Nat} :
    CxOk P (mkCx tt cts la ja k) :=
  ⟨cxTy_of h1 rfl, fun f con h => hc.mem (f, con) (lookup_mem' h), hm⟩

/-- A function's contract, from the evaluator's equation. -/
theorem meets_ev {P : Program} {tt : List (Nat × TI)} (h1 : tt.all (fun p => tyB P p.1 p.2) = true) (hm : P.follows .mixedOrders = true) {cts : List (FuncId × Con)} (hc : AllM P cts) {la ja : Nat → Option Ann} {k : Nat}
    {f : FuncId} {fn : Func} (hf : P.funcs[f]? = some fn) (hname : (fn.name == "runtime.NumGoroutine") = false) {ps : List PK} {rs : List RK} {kp : List (Nat × List Bool)} (hn : decide (ps.length ≤ fn.ntmps) = true)
    {F : TupD (ps.map PK.ty) → Option (TupD (rs.map RK.ty ++ ioTys ps))} (hF : ∀ x, evFn2 (mkCx tt cts la ja k) ps rs kp fn x = F x) : Meets P f ⟨ps, rs, F, kp⟩ :=
  fn_ok (cx_ok h1 hm hc) hf hname (of_decide_eq_true hn) (fun x _ h => (evFn2_eq ..).symm.trans ((hF x).trans h))

/-- What is asked of a function's text: its name, the number of its slots. -/
def fnB (fn : Func) (n : Nat) : Bool := match fn.name == "runtime.NumGoroutine" with | true => false | false => decide (n ≤ fn.ntmps)
theorem fnB_spec {fn : Func} {n : Nat} (h : fnB fn n = true) : (fn.name == "runtime.NumGoroutine") = false ∧ decide (n ≤ fn.ntmps) = true := by
  unfold fnB at h
  split at h
  · cases h
  · rename_i hn; exact ⟨hn, h⟩

theorem AllM.ev {P : Program} {tt : List (Nat × TI)} (h1 : tt.all (fun p => tyB P p.1 p.2) = true) (hm : P.follows .mixedOrders = true) {cts : List (FuncId × Con)} (hc : AllM P cts) (la ja : Nat → Option Ann) (k : Nat)
    {f : FuncId} {fn : Func} (hf : P.funcs[f]? = some fn) {ps : List PK} (hb : fnB fn ps.length = true) {rs : List RK} {kp : List (Nat × List Bool)}
    {F : TupD (ps.map PK.ty) → Option (TupD (rs.map RK.ty ++ ioTys ps))} (hF : ∀ x, evFn2 (mkCx tt cts la ja k) ps rs kp fn x = F x) : AllM P ((f, ⟨ps, rs, F, kp⟩) :: cts) :=
  ⟨meets_ev h1 hm hc hf (fnB_spec hb).1 (fnB_spec hb).2 hF, hc⟩

end Vg

/- VG, part 66: functions' contracts, with calls that write into what they are handed. -/
namespace Vg
open Go

/-- A value that is named. -/
def letC {α β : Type} (x : α) (f : α → β) : β := f x

def ownP : Ty → Pt
  | .sl _ => .own
  | .pair a b => .pair (ownP a) (ownP b)
  | _ => .leaf

def finM (τ : Ty) (rv : List ResultVar) (E : Env) : Option (Int × τ.den) :=
  match rv with
  | [.tmp s] => (match E.get s, E.get 0 with
    | .d ⟨.int .i64, k, _⟩, .d v => (match castV v τ, ownT v.sh with
      | some y, some _ => some (k, y)
      | _, _ => none)
    | _, _ => none)
  | _ => none

/-- What a function makes of what it is handed. -/
def evMk (C : Cx) (M : MTab) (τ : Ty) (fn : Func) (x : τ.den) (n : Int) : Option (Int × τ.den) :=
  match fn.body with
  | none => none
  | some c =>
    let e := env0 [.val τ (ownP τ), .val (.int .i64) .leaf] (x, n, ()) 3
    evM { C with n := fn.ntmps, io := [0] } M c ⟨e.1 ++ List.replicate (fn.ntmps - e.1.length) .no, e.2, true⟩ (finM τ fn.results.toList) [] (finM τ fn.results.toList)

def evFnM (C : Cx) (M : MTab) (ps : List PK) (rs : List RK) (kp : List (Nat × List Bool)) (fn : Func) (x : TupD (ps.map PK.ty)) : Option (TupD (rs.map RK.ty ++ ioTys ps)) :=
  match fn.body with
  | none => none
  | some c =>
    let e := env0 ps x 3
    evM { C with n := fn.ntmps, io := ioIdx ps 0 } M c ⟨e.1 ++ List.replicate (fn.ntmps - e.1.length) .no, e.2, true⟩ (fin C.tt ps rs kp fn.results.toList e.2) [] (fin C.tt ps rs kp fn.results.toList e.2)

section
variable {P : Program} {C : Cx} {M : MTab} {w0 : World} {c0 : C0} {U : Nat → Prop} {E : Env} {a : Act} {w : World} {G : Gh} {ops : List Oper} {L : Nat → Prop} {Q : Exit → Act → World → Prop} {ρ : Type}

theorem own_ent : ∀ {τ : Ty} {x : τ.den} {cs : List Value} {B : List Nat} (tk : Nat), 3 ≤ tk → Rep w τ x cs B → B.Nodup → ∃ (f : Nat → Nat) (H : Nat → Value), (∀ b ∈ B, tk ≤ f b ∧ f b < ptNext (ownP τ) tk) ∧
    ∀ G1 : Gh, (∀ b ∈ B, G1.col b = f b) → (∀ u, tk ≤ u → u < ptNext (ownP τ) tk → G1.hdr u = H u) → VOk w G1 τ x (ptShape (ownP τ) tk [1]).1 cs
  | .int _, _, _, _, _, _, h, _ => ⟨fun _ => 0, fun _ => undef, by rw [h.2]; simp, fun _ _ _ => h.1⟩
  | .bool, _, _, _, _, _, h, _ => ⟨fun _ => 0, fun _ => undef, by rw [h.2]; simp, fun _ _ _ => h.1⟩
  | .str, _, _, _, _, _, h, _ => ⟨fun _ => 0, fun _ => undef, by rw [h.2]; simp, fun _ _ _ => h.1⟩
  | .sl e, l, cs, B, tk, h3, h, hn => by
    obtain ⟨v, rfl, hS⟩ := h
    refine ⟨fun _ => tk, fun _ => v, fun b _ => ⟨Nat.le_refl _, Nat.lt_succ_self _⟩, fun G1 g1 g2 => ⟨v, rfl, h3, g2 tk (Nat.le_refl _) (Nat.lt_succ_self _), B, hS, ?_⟩⟩
    rintro b Bs rfl
    rw [List.nodup_cons] at hn
    exact ⟨g1 b (by simp), hn.1, fun z hz => by simp [g1 z (by simp [hz])], fun _ => hn.2⟩
  | .pair a b, p, cs, B, tk, h3, h, hn => by
    obtain ⟨c1, c2, B1, B2, rfl, rfl, h1, h2⟩ := h
    rw [List.nodup_append] at hn
    obtain ⟨n1, n2, n3⟩ := hn
    have hge := ptNext_ge (ownP a) tk
    have hge2 := ptNext_ge (ownP b) (ptNext (ownP a) tk)
    obtain ⟨f1, H1, j1, k1⟩ := own_ent tk h3 h1 n1
    obtain ⟨f2, H2, j2, k2⟩ := own_ent (ptNext (ownP a) tk) (by omega) h2 n2
    refine ⟨fun z => if z ∈ B1 then f1 z else f2 z, fun u => if u < ptNext (ownP a) tk then H1 u else H2 u, fun z hz => ?_, fun G1 g1 g2 => ⟨c1, c2, rfl, ?_, ?_⟩⟩
    · simp only [ownP, ptNext_pair]
      by_cases hz1 : z ∈ B1
      · have := j1 z hz1; simp only [hz1, if_true]; omega
      · have := j2 z ((List.mem_append.1 hz).resolve_left hz1); simp only [hz1, if_false]; omega
    · exact k1 G1 (fun z hz => by rw [g1 z (by simp [hz])]; simp [hz]) (fun u hu hu2 => (g2 u hu (by simp only [ownP, ptNext_pair]; omega)).trans (if_pos hu2))
    · rw [ptNext_eq]
      exact k2 G1 (fun z hz => by
        rw [g1 z (by simp [hz])]
        have : z ∉ B1 := fun h => n3 z h z hz rfl
        simp [this]) (fun u hu hu2 => (g2 u (by omega) (by simp only [ownP, ptNext_pair]; omega)).trans (if_neg (by omega)))

theorem lot_own {τ : Ty} {x : τ.den} {cs : List Value} {B : List Nat} (n : Int) (h : Rep w τ x cs B) (hn : B.Nodup) (hf : ∀ b ∈ B, Fresh1 w b) :
    ∃ G0 : Gh, Lot w G0 (env0 [.val τ (ownP τ), .val (.int .i64) .leaf] (x, n, ()) 3).1 [mkv τ cs, .int .i64 n] (entNt [.val τ (ownP τ), .val (.int .i64) .leaf] 3) ∧
      (∀ b, b ∉ B → G0.col b = 0) := by
  obtain ⟨f, H, j, k⟩ := own_ent 3 (Nat.le_refl _) h hn
  let G0 : Gh := ⟨fun b => if b ∈ B then f b else 0, H, fun _ => false⟩
  have hcol : ∀ b ∈ B, G0.col b = f b := fun b hb => by simp [G0, hb]
  have hv := k G0 hcol (fun _ _ _ => rfl)
  refine ⟨G0, ⟨rfl, fun i => ?_, fun i => ?_, fun i j t v v' h h' => env0_uni h h', fun b hb => ?_, fun b hb => ?_, rfl, fun b => ?_⟩, fun b hb => by simp [G0, hb]⟩
  · match i with
    | 0 => exact ⟨cs, rfl, hv⟩
    | 1 => exact ⟨_, rfl, rfl⟩
    | i + 2 => trivial
  · by_cases hi : i < (env0 [.val τ (ownP τ), .val (.int .i64) .leaf] (x, n, ()) 3).1.length
    · have hmem : (env0 [.val τ (ownP τ), .val (.int .i64) .leaf] (x, n, ()) 3).1.getD i .no ∈ (env0 [.val τ (ownP τ), .val (.int .i64) .leaf] (x, n, ()) 3).1 := by
        rw [List.getD_eq_getElem?_getD, List.getElem?_eq_getElem hi]; simp
      obtain ⟨h1, h2, h3⟩ := env0_static _ hmem
      have hge := entNt_ge [.val τ (ownP τ), .val (.int .i64) .leaf] 3
      refine ⟨fun c hc => ?_, fun c hc => ?_, by rw [h3]; simp⟩
      · rcases h1 c hc with rfl | ⟨q1, q2, q3⟩ | h
        · exact ⟨by omega, by omega, rfl⟩
        · exact ⟨by omega, q2, rfl⟩
        · simp [vxs] at h
      · have := h2 c hc; simp [boxToks] at this
    · rw [List.getD_eq_getElem?_getD, List.getElem?_eq_none (by omega)]
      simp [Ment, SV.sc, SV.bt, SV.rt]
  · by_cases hb1 : b ∈ B
    · rw [hcol b hb1]
      exact ⟨(j b hb1).2, Rep.bounds h b hb1⟩
    · simp [G0, hb1] at hb
  · by_cases hb1 : b ∈ B
    · exact hf b hb1
    · simp [G0, hb1] at hb
  · by_cases hb1 : b ∈ B
    · rw [hcol b hb1]; have := j b hb1; omega
    · simp [G0, hb1]

theorem begin_tmp (args : List Value) (n i : Nat) (hi : i < args.length) : (args.toArray ++ Array.replicate (n - args.toArray.size) undef).getD i undef = args.getD i undef := by
  rw [Array.getD_eq_getD_getElem?, List.getD_eq_getElem?_getD, Array.getElem?_append_left (by simpa using hi)]
  simp

/-- A function that writes into what it is handed meets its contract. -/
theorem mk_ok (hC : CxOk P C) (hM : MTabOk P M) {f : FuncId} {fn : Func} {m : MCon} (hf : P.funcs[f]? = some fn) (hname : (fn.name == "runtime.NumGoroutine") = false) (hn : 2 ≤ fn.ntmps)
    (hF : ∀ x n y, m.F x n = some y → evMk C M m.τ fn x n = some y) : MMeets P f m := by
  intro w x n k y cs B hy hrep hnd hfr
  have hev := hF x n (k, y) hy
  unfold evMk at hev
  split at hev
  · cases hev
  · rename_i c hb
    obtain ⟨G0, hlot, hG0⟩ := lot_own n hrep hnd hfr
    have hrun : (callFunc f #[mkv m.τ cs, .int .i64 n]).run P w = .ok (.enter f #[mkv m.τ cs, .int .i64 n]) w := by
      have hne : fn.name ≠ "runtime.NumGoroutine" := by simpa using hname
      unfold callFunc
      simp [hf, hne, hb]
    unfold Upon
    rw [hrun]
    simp only
    refine calls_of_wp hf hb ?_
    have hE := begin_ok hlot fn.ntmps
    have h30 := entNt_ge [.val m.τ (ownP m.τ), .val (.int .i64) .leaf] 3
    have hkey : KOk { C with n := fn.ntmps, io := [0] } w (G0.beg (entNt [.val m.τ (ownP m.τ), .val (.int .i64) .leaf] 3)) (fun i => [mkv m.τ cs, Value.int .i64 n].getD i undef) (k, y) (finM m.τ fn.results.toList) (fun a' w' =>
        a'.defers = [] ∧ ∃ v, (results fn a'.tmps).run P w' = .ok v w' ∧ ∃ v', Ending.returned v = Ending.returned v' ∧ (v' = .int .i64 k ∧ ∃ B', MPost w w' m.τ y cs B B')) := by
      intro E' a' w' G' g1 g2 g3 g4 gT g5
      unfold finM at g5
      split at g5
      · rename_i s hrv
        split at g5
        · rename_i k' shk v hs h0
          split at g5
          · rename_i y' ts hcast hown
            cases g5
            have hk := slot_int g1 hs
            have hs0 := g1.slots 0
            have h0' : E'.s.getD 0 .no = .d v := h0
            rw [h0'] at hs0
            obtain ⟨cs', hcs', hv⟩ := hs0
            have e := castV_ok hcast
            rw [e] at hcs' hv
            have hT0 := gT 0 (by simp)
            rw [hcs'] at hT0
            have hT0' : mkv m.τ cs' = mkv m.τ cs := hT0
            have hcc : cs' = cs := by
              have h1 := mkv_cells (VOk.len hv) (VOk.one hv)
              have h2 := mkv_cells (Rep.len hrep) (Rep.one hrep)
              rw [← h1, ← h2, hT0']
            subst hcc
            have hsown := ownT_own hv hown
            obtain ⟨B', hB', hn', hc'⟩ := hv.own hsown
            have h3' := Sh.own_ge hv hsown
            refine ⟨g1.defers, .int .i64 k, ?_, .int .i64 k, rfl, rfl, B', ⟨hB', hn', fun b hb' => ?_, fun b hb' => g1.fresh b (h3' _ (hc' b hb')), fun b hb' hnb => ?_, g1.size, g1.os, g1.tape, g1.output⟩⟩
            · have := run_results (P := P) (w := w') (fn := fn) (tmps := a'.tmps) (vs := [a'.tmps.getD s undef]) (by rw [hrv]; simp [resRun])
              rw [this, hk]; rfl
            · rcases Nat.lt_or_ge b w.heap.size with hlt | hge
              · left
                refine Classical.byContradiction fun hnb => ?_
                have : G'.col b = G0.col b := (g1.frame b hlt (by show G0.col b < 3; rw [hG0 b hnb]; omega)).1
                rw [hG0 b hnb] at this
                have h4 := h3' _ (hc' b hb')
                omega
              · exact .inr hge
            · exact (g1.frame b hb' (by show G0.col b < 3; rw [hG0 b hnb]; omega)).2
          · cases g5
        · cases g5
      · cases g5
    have hC2 : CxOk P { C with n := fn.ntmps, io := [0] } := ⟨⟨hC.tt, hC.eq, hC.fs, hC.u8⟩, hC.ct, hC.mixed⟩
    have hnt : (env0 [.val m.τ (ownP m.τ), .val (.int .i64) .leaf] (x, n, ()) 3).2 = entNt [.val m.τ (ownP m.τ), .val (.int .i64) .leaf] 3 := env0_nt _ _ _
    have hln : (env0 [.val m.τ (ownP m.τ), .val (.int .i64) .leaf] (x, n, ()) 3).1.length = 2 := env0_len [.val m.τ (ownP m.τ), .val (.int .i64) .leaf] (x, n, ()) 3
    refine evM_ok (T := fun i => [mkv m.τ cs, Value.int .i64 n].getD i undef) hC2 hM c (w0 := w) (c0 := G0.beg (entNt [.val m.τ (ownP m.τ), .val (.int .i64) .leaf] 3)) (G := G0) (r := (k, y)) (hE.mono fun u hu => Nat.lt_of_lt_of_le hu (Nat.le_of_eq hnt.symm)) (fun s j w1 act v h => ?_) ?_ ?_ (fun i hi => ?_) hev hkey (fun id k hk => by simp [List.lookup] at hk) hkey
    · rw [getD_app_no] at h; exact env0_noG _ _ _ _ _ h
    · simp only [List.length_append, List.length_replicate]; omega
    · exact Nat.le_trans h30 (Nat.le_of_eq hnt.symm)
    · simp only [List.mem_singleton] at hi
      subst hi
      exact begin_tmp [mkv m.τ cs, Value.int .i64 n] fn.ntmps 0 (by simp)

/-- A function that calls such functions meets its contract. -/
theorem fnM_ok (hC : CxOk P C) (hM : MTabOk P M) {f : FuncId} {fn : Func} {con : Con} (hf : P.funcs[f]? = some fn) (hname : (fn.name == "runtime.NumGoroutine") = false) (hn : con.ps.length ≤ fn.ntmps)
    (hF : ∀ x y, con.F x = some y → evFnM C M con.ps con.rs con.kp fn x = some y) : Meets P f con := by
  intro w G0 args x y hy hlot
  have hev := hF x y hy
  unfold evFnM at hev
  split at hev
  · cases hev
  · rename_i c hb
    have hrun : (callFunc f args.toArray).run P w = .ok (.enter f args.toArray) w := by
      have hne : fn.name ≠ "runtime.NumGoroutine" := by simpa using hname
      unfold callFunc
      simp [hf, hne, hb]
    unfold Upon
    rw [hrun]
    simp only
    refine calls_of_wp hf hb ?_
    have hal : args.length = con.ps.length := by rw [hlot.len, env0_len]
    have hE := begin_ok hlot fn.ntmps
    have h30 := entNt_ge con.ps 3
    have hkey : KOk { C with n := fn.ntmps, io := ioIdx con.ps 0 } w (G0.beg (entNt con.ps 3)) (fun i => args.getD i undef) y (fin C.tt con.ps con.rs con.kp fn.results.toList (env0 con.ps x 3).2) (fun a' w' =>
        a'.defers = [] ∧ ∃ v, (results fn a'.tmps).run P w' = .ok v w' ∧ ∃ v', Ending.returned v = Ending.returned v' ∧ ∃ G' vs nt, Post con w G0 args y v' w' G' vs nt) := by
      intro E' a' w' G' g1 g2 g3 g4 gT g5
      rw [env0_nt] at g5
      obtain ⟨mv, G2, vs, nt, k1, k2⟩ := fin_ok hC.toCxTy (args := args) hlot g1 g5 gT
      exact ⟨g1.defers, mv, k1, mv, rfl, G2, vs, nt, k2⟩
    have hC2 : CxOk P { C with n := fn.ntmps, io := ioIdx con.ps 0 } := ⟨⟨hC.tt, hC.eq, hC.fs, hC.u8⟩, hC.ct, hC.mixed⟩
    refine evM_ok (T := fun i => args.getD i undef) hC2 hM c (w0 := w) (c0 := G0.beg (entNt con.ps 3)) (G := G0) (r := y) (by rw [env0_nt]; simpa [env0_nt] using hE) (fun s j w1 act v h => ?_) ?_ ?_ (fun i hi => ?_) hev hkey (fun id k hk => by simp [List.lookup] at hk) hkey
    · rw [getD_app_no] at h; exact env0_noG _ _ _ _ _ h
    · simp only [List.length_append, List.length_replicate, env0_len]; omega
    · rw [env0_nt]; exact h30
    · have := ioIdx_in i hi
      exact begin_tmp args fn.ntmps i (by omega)

def AllMM (P : Program) : List (FuncId × MCon) → Prop
  | [] => True
  | p :: l => MMeets P p.1 p.2 ∧ AllMM P l

theorem mLookup_mem {f : FuncId} {m : MCon} : ∀ {l : List (FuncId × MCon)}, l.lookup f = some m → (f, m) ∈ l
  | [], h => by simp [List.lookup] at h
  | (x, y) :: l, h => by
    simp only [List.lookup] at h
    split at h
    · rename_i e
      simp only [beq_iff_eq] at e
      simp only [Option.some.injEq] at h
      subst e h; simp
    · exact List.mem_cons_of_mem _ (mLookup_mem h)

theorem AllMM.mem : ∀ {l : List (FuncId × MCon)}, AllMM P l → ∀ p ∈ l, MMeets P p.1 p.2
  | [], _, _, h => by cases h
  | q :: l, ⟨h1, h2⟩, p, h => by
    rcases List.mem_cons.1 h with rfl | h
    · exact h1
    · exact AllMM.mem h2 p h

theorem AllMM.tab {l : List (FuncId × MCon)} (h : AllMM P l) : MTabOk P (fun f => l.lookup f) := fun f m hm => h.mem (f, m) (mLookup_mem hm)

theorem mmeets_ev {tt : List (Nat × TI)} (h1 : tt.all (fun p => tyB P p.1 p.2) = true) (hm : P.follows .mixedOrders = true) {cts : List (FuncId × Con)} (hc : AllM P cts) {mts : List (FuncId × MCon)} (hmc : AllMM P mts) {la ja : Nat → Option Ann} {k : Nat}
    {f : FuncId} {fn : Func} (hf : P.funcs[f]? = some fn) (hname : (fn.name == "runtime.NumGoroutine") = false) {τ : Ty} (hn : decide (2 ≤ fn.ntmps) = true)
    {F : τ.den → Int → Option (Int × τ.den)} (hF : ∀ x n, evMk (mkCx tt cts la ja k) (fun f => mts.lookup f) τ fn x n = F x n) : MMeets P f ⟨τ, F⟩ :=
  mk_ok (cx_ok h1 hm hc) hmc.tab hf hname (of_decide_eq_true hn) (fun x n _ h => (hF x n).trans h)

theorem meetsM_ev {tt : List (Nat × TI)} (h1 : tt.all (fun p => tyB P p.1 p.2) = true) (hm : P.follows .mixedOrders = true) {cts : List (FuncId × Con)} (hc : AllM P cts) {mts : List (FuncId × MCon)} (hmc : AllMM P mts) {la ja : Nat → Option Ann} {k : Nat}
    {f : FuncId} {fn : Func} (hf : P.funcs[f]? = some fn) (hname : (fn.name == "runtime.NumGoroutine") = false) {ps : List PK} {rs : List RK} {kp : List (Nat × List Bool)} (hn : decide (ps.length ≤ fn.ntmps) = true)
    {F : TupD (ps.map PK.ty) → Option (TupD (rs.map RK.ty ++ ioTys ps))} (hF : ∀ x, evFnM (mkCx tt cts la ja k) (fun f => mts.lookup f) ps rs kp fn x = F x) : Meets P f ⟨ps, rs, F, kp⟩ :=
  fnM_ok (cx_ok h1 hm hc) hmc.tab hf hname (of_decide_eq_true hn) (fun x _ h => (hF x).trans h)


theorem AllM.evM {tt : List (Nat × TI)} (h1 : tt.all (fun p => tyB P p.1 p.2) = true) (hm : P.follows .mixedOrders = true) {cts : List (FuncId × Con)} (hc : AllM P cts) {mts : List (FuncId × MCon)} (hmc : AllMM P mts) (la ja : Nat → Option Ann) (k : Nat)
    {f : FuncId} {fn : Func} (hf : P.funcs[f]? = some fn) {ps : List PK} (hb : fnB fn ps.length = true) {rs : List RK} {kp : List (Nat × List Bool)}
    {F : TupD (ps.map PK.ty) → Option (TupD (rs.map RK.ty ++ ioTys ps))} (hF : ∀ x, evFnM (mkCx tt cts la ja k) (fun f => mts.lookup f) ps rs kp fn x = F x) : AllM P ((f, ⟨ps, rs, F, kp⟩) :: cts) :=
  ⟨meetsM_ev h1 hm hc hmc hf (fnB_spec hb).1 (fnB_spec hb).2 hF, hc⟩

theorem AllMM.ev {tt : List (Nat × TI)} (h1 : tt.all (fun p => tyB P p.1 p.2) = true) (hm : P.follows .mixedOrders = true) {cts : List (FuncId × Con)} (hc : AllM P cts) {mts : List (FuncId × MCon)} (hmc : AllMM P mts) (la ja : Nat → Option Ann) (k : Nat)
    {f : FuncId} {fn : Func} (hf : P.funcs[f]? = some fn) (hb : fnB fn 2 = true) {τ : Ty}
    {F : τ.den → Int → Option (Int × τ.den)} (hF : ∀ x n, evMk (mkCx tt cts la ja k) (fun f => mts.lookup f) τ fn x n = F x n) : AllMM P ((f, ⟨τ, F⟩) :: mts) :=
  ⟨mmeets_ev h1 hm hc hmc hf (fnB_spec hb).1 (fnB_spec hb).2 hF, hmc⟩

end
end Vg

/- VG, part 51: plain laws of what is printed: loops; sizes, copies, comparisons. -/
namespace Vg
open Go

theorem wrap64 {n : Int} (h : -9223372036854775808 ≤ n) (h' : n < 9223372036854775808) : IntKind.i64.wrap n = n := by
  simp only [IntKind.wrap, IntKind.signed, IntKind.bits]
  simp
  omega

/-- A loop that comes nearer to its end with each round. -/
theorem loopN_ix {σ ρ : Type} {f : (σ → Option ρ) → σ → Option ρ} (g : σ → Option ρ) (m : σ → Nat) (I : σ → Prop)
    (h : ∀ G s, I s → (∀ s', I s' → m s' < m s → G s' = g s') → f G s = g s) : ∀ (k : Nat) (s : σ), I s → m s < k → loopN k f s = g s
  | 0, _, _, hm => by omega
  | k + 1, s, hi, hm => by
    show f (loopN k f) s = g s
    exact h _ s hi (fun s' hi' hm' => loopN_ix g m I h k s' hi' (by omega))

/-- Two loops in step. -/
theorem loop_sim {σ σ' ρ ρ' : Type} {f : (σ → Option ρ) → σ → Option ρ} {f' : (σ' → Option ρ') → σ' → Option ρ'} (R : σ → σ' → Prop) (S : Option ρ → Option ρ' → Prop) (h0 : S none none)
    (h : ∀ G G' s s', R s s' → (∀ t t', R t t' → S (G t) (G' t')) → S (f G s) (f' G' s')) : ∀ (k : Nat) (s : σ) (s' : σ'), R s s' → S (loopN k f s) (loopN k f' s')
  | 0, _, _, _ => h0
  | k + 1, s, s', hr => h _ _ s s' hr (fun t t' ht => loop_sim R S h0 h k t t' ht)

/-- A loop ends, and what it ends with. -/
theorem loopN_tot {σ ρ : Type} {f : (σ → Option ρ) → σ → Option ρ} (m : σ → Nat) (I : σ → Prop) (P : ρ → Prop)
    (h : ∀ G s, I s → (∀ s', I s' → m s' < m s → ∃ r, G s' = some r ∧ P r) → ∃ r, f G s = some r ∧ P r) : ∀ (k : Nat) (s : σ), I s → m s < k → ∃ r, loopN k f s = some r ∧ P r
  | 0, _, _, hm => by omega
  | k + 1, s, hi, hm => h _ s hi (fun s' hi' hm' => loopN_tot m I P h k s' hi' (by omega))

/-- How much a value holds: elements and letters. -/
def tot : (τ : Ty) → τ.den → Nat
  | .int _, _ => 0
  | .bool, _ => 0
  | .str, s => s.size
  | .sl e, l => l.length + (l.map (tot e)).sum
  | .pair a b, p => tot a p.1 + tot b p.2

/-- What is left of a bound. -/
def szv (t : Nat) (left : Int) : Int := if (t : Int) ≤ left then left - t else -1

theorem szv_neg {t : Nat} {left : Int} : szv t left < 0 ↔ ¬ (t : Int) ≤ left := by
  unfold szv
  split <;> omega

theorem szv_le {t : Nat} {left : Int} (h : 0 ≤ left) : szv t left ≤ left := by
  unfold szv
  split <;> omega

theorem szv_add {a b : Nat} {left : Int} (h : ¬ szv a left < 0) : szv b (szv a left) = szv (a + b) left := by
  rw [szv_neg] at h
  have h1 : (a : Int) ≤ left := by omega
  simp only [szv, if_pos h1]
  split <;> split <;> omega

theorem szv_over {a b : Nat} {left : Int} (h : szv a left < 0) : szv (a + b) left = -1 := by
  rw [szv_neg] at h
  unfold szv
  rw [if_neg (by omega)]

theorem szv_some {t : Nat} {left : Int} (h : ¬ szv t left < 0) : 0 ≤ szv t left ∧ (t : Int) ≤ left := by
  rw [szv_neg] at h
  have h1 : (t : Int) ≤ left := by omega
  simp only [szv, if_pos h1]
  omega

/-- A text's part of a size. -/
theorem str_sz {s : ByteArray} {left : Int} (hs : s.size ≤ maxLen) (h0 : 0 ≤ left) (h1 : left ≤ 1048576) :
    (if (decide (IntKind.i64.wrap (left - (s.size : Int)) < 0)) = true then (-1 : Int) else IntKind.i64.wrap (left - (s.size : Int))) = szv s.size left := by
  unfold maxLen at hs
  rw [wrap64 (by omega) (by omega)]
  unfold szv
  by_cases h : left - (s.size : Int) < 0
  · rw [if_pos (by simpa using h), if_neg (by omega)]
  · rw [if_neg (by simpa using h), if_pos (by omega)]

theorem str_neg {s : ByteArray} {left : Int} (hs : s.size ≤ maxLen) (h0 : 0 ≤ left) (h1 : left ≤ 1048576) : decide (IntKind.i64.wrap (left - (s.size : Int)) < 0) = decide (szv s.size left < 0) := by
  unfold maxLen at hs
  rw [wrap64 (by omega) (by omega)]
  unfold szv
  by_cases h : left - (s.size : Int) < 0
  · rw [if_neg (by omega)]; simpa using h
  · rw [if_pos (by omega)]

theorem str_wrap {s : ByteArray} {left : Int} (hs : s.size ≤ maxLen) (h0 : 0 ≤ left) (h1 : left ≤ 1048576) (h : ¬ szv s.size left < 0) : IntKind.i64.wrap (left - (s.size : Int)) = szv s.size left := by
  unfold maxLen at hs
  rw [wrap64 (by omega) (by omega)]
  rw [szv_neg] at h
  unfold szv
  rw [if_pos (by omega)]

def szS {α : Type} (k : Nat) (d : α) (S : α × Int × Unit → Option (Int × Unit)) (x : List α × Int × Unit) : Option (Int × Unit) :=
  if (decide (((IntKind.i64.wrap (x.2.1 - ((List.length x.1 : Nat) : Int))) : Int) < 0)) = true then
    some ((-1), ())
  else
    loopN k (fun G1 (t2 : List α × Int × Int × Unit) =>
      if (decide ((t2.2.2.1 : Int) < ((List.length t2.1 : Nat) : Int))) = true then
        if (decide (0 ≤ t2.2.2.1 ∧ t2.2.2.1 < ((List.length t2.1 : Nat) : Int))) = true then
          Option.bind (S (List.getD t2.1 (Int.toNat t2.2.2.1) d, t2.2.1, ())) fun (r3 : Int × Unit) =>
          if (decide ((r3.1 : Int) < 0)) = true then
            some ((-1), ())
          else
            G1 (t2.1, r3.1, IntKind.i64.wrap (t2.2.2.1 + 1), ())
        else
          none
      else
        some (t2.2.1, ())) (x.1, IntKind.i64.wrap (x.2.1 - ((List.length x.1 : Nat) : Int)), 0, ())

theorem getD_mem {α : Type} {l : List α} {i : Nat} {d : α} (h : i < l.length) : l.getD i d ∈ l := by
  rw [List.getD_eq_getElem?_getD, List.getElem?_eq_getElem h]; simp

theorem drop_getD {α : Type} {l : List α} {i : Nat} {d : α} (h : i < l.length) : l.drop i = l.getD i d :: l.drop (i + 1) := by
  rw [List.drop_eq_getElem_cons h, List.getD_eq_getElem?_getD, List.getElem?_eq_getElem h]; rfl

theorem szS_gen {α : Type} {k : Nat} {d : α} {S : α × Int × Unit → Option (Int × Unit)} {t : α → Nat} {l : List α} {left : Int} (hk : 9223372036854775808 ≤ k) (hl : l.length ≤ maxLen) (h0 : 0 ≤ left) (h1 : left ≤ 1048576)
    (hS : ∀ e ∈ l, ∀ left, 0 ≤ left → left ≤ 1048576 → ∃ r, S (e, left, ()) = some (r, ()) ∧ (r < 0 ↔ szv (t e) left < 0) ∧ (¬ szv (t e) left < 0 → r = szv (t e) left)) : szS k d S (l, left, ()) = some (szv (l.length + (l.map t).sum) left, ()) := by
  have hlen : (l.length : Int) < 9223372036854775808 := by
    unfold maxLen at hl; omega
  unfold szS
  simp only
  rw [wrap64 (by omega) (by omega)]
  by_cases hneg : left - (l.length : Int) < 0
  · rw [if_pos (by simpa using hneg)]
    unfold szv
    rw [if_neg (by omega)]
  · rw [if_neg (by simpa using hneg)]
    rw [loopN_ix (g := fun (s : List α × Int × Int × Unit) => some (szv (((s.1.drop s.2.2.1.toNat).map t).sum) s.2.1, ())) (m := fun (s : List α × Int × Int × Unit) => s.1.length - s.2.2.1.toNat)
      (I := fun (s : List α × Int × Int × Unit) => s.1 = l ∧ 0 ≤ s.2.2.1 ∧ s.2.2.1 ≤ (l.length : Int) ∧ 0 ≤ s.2.1 ∧ s.2.1 ≤ 1048576)]
    · simp only [Int.toNat_zero, List.drop_zero]
      unfold szv
      congr 2
      split <;> split <;> omega
    · rintro G ⟨l', lf, i, u⟩ ⟨he, hi0, hi1, hl0, hl1⟩ hG
      change l' = l at he
      subst he
      simp only at hi0 hi1 hl0 hl1 hG ⊢
      by_cases hi : i < (l'.length : Int)
      · rw [if_pos (by simpa using hi), if_pos (by simpa using ⟨hi0, hi⟩)]
        have hin : i.toNat < l'.length := by omega
        obtain ⟨r, hr, hr1, hr2⟩ := hS _ (getD_mem (d := d) hin) lf hl0 hl1
        rw [hr, Option.bind_some, drop_getD (d := d) hin]
        simp only [List.map_cons, List.sum_cons]
        by_cases hn : szv (t (l'.getD i.toNat d)) lf < 0
        · rw [if_pos (by simpa using hr1.2 hn), szv_over hn]
        · rw [if_neg (by simpa using fun h => hn (hr1.1 h)), ← szv_add hn, hr2 hn]
          have hs := szv_some hn
          have hle := szv_le (t := t (l'.getD i.toNat d)) hl0
          rw [wrap64 (by omega) (by omega)]
          rw [hG (l', szv (t (l'.getD i.toNat d)) lf, i + 1, ()) ⟨rfl, by simp only; omega, by simp only; omega, by simp only; omega, by simp only; omega⟩ (by simp only; omega)]
          simp only
          rw [show (i + 1).toNat = i.toNat + 1 by omega]
      · rw [if_neg (by simpa using hi)]
        rw [List.drop_eq_nil_of_le (by omega)]
        simp [szv, hl0]
    · exact ⟨rfl, by simp, by simp, by simp only; omega, by simp only; omega⟩
    · simp only
      omega

theorem szS_ok {α : Type} {k : Nat} {d : α} {S : α × Int × Unit → Option (Int × Unit)} {t : α → Nat} {l : List α} {left : Int} (hk : 9223372036854775808 ≤ k) (hl : l.length ≤ maxLen) (h0 : 0 ≤ left) (h1 : left ≤ 1048576)
    (hS : ∀ e ∈ l, ∀ left, 0 ≤ left → left ≤ 1048576 → S (e, left, ()) = some (szv (t e) left, ())) : szS k d S (l, left, ()) = some (szv (l.length + (l.map t).sum) left, ()) :=
  szS_gen hk hl h0 h1 (fun e he left a b => ⟨_, hS e he left a b, Iff.rfl, fun _ => rfl⟩)

theorem szT_ok {k : Nat} {l : List ByteArray} {left : Int} (hk : 9223372036854775808 ≤ k) (hx : Fits (.sl .str) l) (h0 : 0 ≤ left) (h1 : left ≤ 1048576) :
    szS k ByteArray.empty (fun z => some (IntKind.i64.wrap (z.2.1 - ((ByteArray.size z.1 : Nat) : Int)), ())) (l, left, ()) = some (szv (tot (.sl .str) l) left, ()) :=
  szS_gen (t := ByteArray.size) hk hx.1 h0 h1 (fun e he lf a b => ⟨_, rfl, by have := str_neg (hx.2 e he) a b; simpa using this, fun h => str_wrap (hx.2 e he) a b h⟩)

def szZ {α : Type} (x : List α × Int × Unit) : Option (Int × Unit) :=
  if (decide (((IntKind.i64.wrap (x.2.1 - ((List.length x.1 : Nat) : Int))) : Int) < 0)) = true then
    some ((-1), ())
  else
    some (IntKind.i64.wrap (x.2.1 - ((List.length x.1 : Nat) : Int)), ())

/-- A type of numbers alone. -/
def Ty.noTot : Ty → Bool
  | .int _ | .bool => true
  | .pair a b => a.noTot && b.noTot
  | _ => false

theorem noTot_ok : ∀ {τ : Ty} (x : τ.den), τ.noTot = true → tot τ x = 0
  | .int _, _, _ | .bool, _, _ => rfl
  | .pair a b, x, h => by
    simp only [Ty.noTot, Bool.and_eq_true] at h
    simp only [tot, noTot_ok x.1 h.1, noTot_ok x.2 h.2]
  | .str, _, h | .sl _, _, h => by simp [Ty.noTot] at h

theorem szZ_ok {e : Ty} {k : Nat} {F : Nat → List e.den × Int × Unit → Option (Int × Unit)} (hF : ∀ x, F k x = szZ x) (hz : e.noTot = true) {l : List e.den} {left : Int} (hx : Fits (.sl e) l) (h0 : 0 ≤ left) (h1 : left ≤ 1048576) :
    F k (l, left, ()) = some (szv (tot (.sl e) l) left, ()) := by
  have hl : l.length ≤ maxLen := hx.1
  unfold maxLen at hl
  have ht : tot (.sl e) l = l.length := by
    have : ∀ m : List e.den, (m.map (tot e)).sum = 0 := by
      intro m
      induction m with
      | nil => rfl
      | cons a m ih => simp only [List.map_cons, List.sum_cons, ih, noTot_ok a hz]
    simp only [tot, this]; omega
  rw [hF, ht]
  simp only [szZ]
  rw [wrap64 (by omega) (by omega)]
  unfold szv
  by_cases h : left - (l.length : Int) < 0
  · rw [if_pos (by simpa using h), if_neg (by omega)]
  · rw [if_neg (by simpa using h), if_pos (by omega)]

theorem szv_big {a t : Nat} {left : Int} (h : szv a left < 0) (hle : a ≤ t) : szv t left = -1 := by
  rw [szv_neg] at h
  unfold szv
  rw [if_neg (by omega)]

def toS {α : Type} (k : Nat) (d : α) (S : α × Unit → Option (α × Unit)) (x : List α × Unit) : Option (List α × Unit) :=
  if (decide (0 ≤ ((List.length x.1 : Nat) : Int) ∧ ((List.length x.1 : Nat) : Int) < 4294967296 ∧ ((List.length x.1 : Nat) : Int) = ((List.length x.1 : Nat) : Int))) = true then
    loopN k (fun G1 (t2 : List α × List α × Int × Unit) =>
      if (decide ((t2.2.2.1 : Int) < ((List.length t2.1 : Nat) : Int))) = true then
        if (decide (0 ≤ t2.2.2.1 ∧ t2.2.2.1 < ((List.length t2.1 : Nat) : Int))) = true then
          Option.bind (S (List.getD t2.1 (Int.toNat t2.2.2.1) d, ())) fun (r3 : α × Unit) =>
          if (decide (0 ≤ t2.2.2.1 ∧ t2.2.2.1 < ((List.length t2.2.1 : Nat) : Int))) = true then
            G1 (t2.1, List.set t2.2.1 (Int.toNat t2.2.2.1) r3.1, IntKind.i64.wrap (t2.2.2.1 + 1), ())
          else
            none
        else
          none
      else
        some (t2.2.1, ())) (x.1, List.replicate (Int.toNat ((List.length x.1 : Nat) : Int)) d, 0, ())
  else
    none

theorem toS_ok {α : Type} {k : Nat} {d : α} {S : α × Unit → Option (α × Unit)} {l : List α} (hk : 9223372036854775808 ≤ k) (hl : l.length ≤ 1048576) (hS : ∀ e ∈ l, S (e, ()) = some (e, ())) : toS k d S (l, ()) = some (l, ()) := by
  unfold toS
  simp only
  rw [if_pos (by simp; omega)]
  rw [loopN_ix (g := fun (s : List α × List α × Int × Unit) => some (l, ())) (m := fun (s : List α × List α × Int × Unit) => l.length - s.2.2.1.toNat)
    (I := fun (s : List α × List α × Int × Unit) => s.1 = l ∧ 0 ≤ s.2.2.1 ∧ s.2.2.1 ≤ (l.length : Int) ∧ s.2.1 = l.take s.2.2.1.toNat ++ List.replicate (l.length - s.2.2.1.toNat) d)]
  · rintro G ⟨l', o, i, u⟩ ⟨he, hi0, hi1, ho⟩ hG
    change l' = l at he
    subst he
    simp only at hi0 hi1 ho hG ⊢
    subst ho
    by_cases hi : i < (l'.length : Int)
    · have hin : i.toNat < l'.length := by omega
      rw [if_pos (by simpa using hi), if_pos (by simpa using ⟨hi0, hi⟩), hS _ (getD_mem hin), Option.bind_some]
      rw [if_pos (by simp; omega), wrap64 (by omega) (by omega)]
      refine hG (l', _, i + 1, ()) ⟨rfl, by simp only; omega, by simp only; omega, ?_⟩ (by simp only; omega)
      simp only
      have hlt : (l'.take i.toNat).length = i.toNat := by simp; omega
      rw [List.set_append_right _ _ (by omega), hlt, Nat.sub_self]
      rw [show l'.length - i.toNat = (l'.length - (i + 1).toNat) + 1 by omega, List.replicate_succ, List.set_cons_zero]
      have ht : l'.take (i.toNat + 1) = l'.take i.toNat ++ [l'[i.toNat]] := by
        rw [List.take_add_one, List.getElem?_eq_getElem hin]; rfl
      rw [show (i + 1).toNat = i.toNat + 1 by omega, ht, List.getD_eq_getElem?_getD, List.getElem?_eq_getElem hin, List.append_assoc]
      rfl
    · rw [if_neg (by simpa using hi)]
      have : i.toNat = l'.length := by omega
      rw [this]
      simp
  · exact ⟨rfl, by simp, by simp, by simp⟩
  · simp only
    omega

theorem toI_ok {α : Type} {k : Nat} {d : α} {l : List α} (hk : 9223372036854775808 ≤ k) (hl : l.length ≤ 1048576) : toS k d (fun z => some (z.1, ())) (l, ()) = some (l, ()) :=
  toS_ok hk hl (fun _ _ => rfl)

def eqS {α : Type} (k : Nat) (d : α) (S : α × α × Unit → Option (Bool × Unit)) (x : List α × List α × Unit) : Option (Bool × Unit) :=
  if ((((List.length x.1 : Nat) : Int) : Int) != ((List.length x.2.1 : Nat) : Int)) = true then
    some (false, ())
  else
    loopN k (fun G1 (t2 : List α × List α × Int × Unit) =>
      if (decide ((t2.2.2.1 : Int) < ((List.length t2.1 : Nat) : Int))) = true then
        if (decide (0 ≤ t2.2.2.1 ∧ t2.2.2.1 < ((List.length t2.1 : Nat) : Int))) = true then
          if (decide (0 ≤ t2.2.2.1 ∧ t2.2.2.1 < ((List.length t2.2.1 : Nat) : Int))) = true then
            Option.bind (S (List.getD t2.1 (Int.toNat t2.2.2.1) d, List.getD t2.2.1 (Int.toNat t2.2.2.1) d, ())) fun (r3 : Bool × Unit) =>
            if (!r3.1) = true then
              some (false, ())
            else
              G1 (t2.1, t2.2.1, IntKind.i64.wrap (t2.2.2.1 + 1), ())
          else
            none
        else
          none
      else
        some (true, ())) (x.1, x.2.1, 0, ())

theorem eqS_ok {α : Type} {k : Nat} {d : α} {S : α × α × Unit → Option (Bool × Unit)} {l : List α} (hk : 9223372036854775808 ≤ k) (hl : l.length ≤ 281474976710656) (hS : ∀ e ∈ l, S (e, e, ()) = some (true, ())) : eqS k d S (l, l, ()) = some (true, ()) := by
  unfold eqS
  simp only
  rw [if_neg (by simp)]
  rw [loopN_ix (g := fun (s : List α × List α × Int × Unit) => some (true, ())) (m := fun (s : List α × List α × Int × Unit) => l.length - s.2.2.1.toNat)
    (I := fun (s : List α × List α × Int × Unit) => s.1 = l ∧ s.2.1 = l ∧ 0 ≤ s.2.2.1 ∧ s.2.2.1 ≤ (l.length : Int))]
  · rintro G ⟨l', o, i, u⟩ ⟨he, ho, hi0, hi1⟩ hG
    change l' = l at he
    subst he
    simp only at hi0 hi1 ho hG ⊢
    subst ho
    by_cases hi : i < (o.length : Int)
    · have hin : i.toNat < o.length := by omega
      rw [if_pos (by simpa using hi), if_pos (by simpa using ⟨hi0, hi⟩), if_pos (by simpa using ⟨hi0, hi⟩), hS _ (getD_mem hin), Option.bind_some]
      rw [if_neg (by simp), wrap64 (by omega) (by omega)]
      exact hG (o, o, i + 1, ()) ⟨rfl, rfl, by simp only; omega, by simp only; omega⟩ (by simp only; omega)
    · rw [if_neg (by simpa using hi)]
  · exact ⟨rfl, rfl, by simp, by simp⟩
  · simp only
    omega

theorem eqI_ok {κ : IntKind} {k : Nat} {l : List (Ty.den (.int κ))} (hk : 9223372036854775808 ≤ k) (hl : l.length ≤ 281474976710656) : eqS (α := Int) k 0 (fun z => some ((z.1 : Int) == z.2.1, ())) (l, l, ()) = some (true, ()) :=
  eqS_ok (α := Int) hk hl (fun e _ => by simp)

theorem eqT_ok {k : Nat} {l : List ByteArray} (hk : 9223372036854775808 ≤ k) (hl : l.length ≤ 281474976710656) : eqS k ByteArray.empty (fun z => some (ByteArray.toList z.1 == ByteArray.toList z.2.1, ())) (l, l, ()) = some (true, ()) :=
  eqS_ok hk hl (fun e _ => by simp)

/-- Two lists, place by place. -/
def allEq {α : Type} (p : α → α → Bool) : List α → List α → Bool
  | [], [] => true
  | a :: l, b :: m => p a b && allEq p l m
  | _, _ => false

theorem allEq_len {α : Type} {p : α → α → Bool} : ∀ {l m : List α}, l.length ≠ m.length → allEq p l m = false
  | [], [], h => absurd rfl h
  | a :: l, b :: m, h => by
    simp only [allEq]
    rw [allEq_len (l := l) (m := m) (fun e => h (by simp [e]))]
    simp
  | [], _ :: _, _ | _ :: _, [], _ => rfl

theorem eqS_all {α : Type} {k : Nat} {d : α} {S : α × α × Unit → Option (Bool × Unit)} {p : α → α → Bool} {l m : List α} (hk : 9223372036854775808 ≤ k) (hl : l.length ≤ 281474976710656) (hS : ∀ a ∈ l, ∀ b ∈ m, S (a, b, ()) = some (p a b, ())) :
    eqS k d S (l, m, ()) = some (allEq p l m, ()) := by
  unfold eqS
  simp only
  by_cases hlen : l.length = m.length
  · rw [if_neg (by simp [hlen])]
    rw [loopN_ix (g := fun (s : List α × List α × Int × Unit) => some (allEq p (l.drop s.2.2.1.toNat) (m.drop s.2.2.1.toNat), ())) (m := fun (s : List α × List α × Int × Unit) => l.length - s.2.2.1.toNat)
      (I := fun (s : List α × List α × Int × Unit) => s.1 = l ∧ s.2.1 = m ∧ 0 ≤ s.2.2.1 ∧ s.2.2.1 ≤ (l.length : Int))]
    · simp
    · rintro G ⟨l', m', i, u⟩ ⟨e1, e2, hi0, hi1⟩ hG
      change l' = l at e1
      change m' = m at e2
      subst e1 e2
      simp only at hi0 hi1 hG ⊢
      by_cases hi : i < (l'.length : Int)
      · have h1 : i.toNat < l'.length := by omega
        have h2 : i.toNat < m'.length := by omega
        rw [if_pos (by simpa using hi), if_pos (by simpa using ⟨hi0, hi⟩), if_pos (by simpa using ⟨hi0, by omega⟩)]
        rw [hS _ (getD_mem h1) _ (getD_mem h2), Option.bind_some, drop_getD (d := d) h1, drop_getD (d := d) h2]
        simp only [allEq]
        cases p (l'.getD i.toNat d) (m'.getD i.toNat d) with
        | true =>
          rw [if_neg (by simp), wrap64 (by omega) (by omega), hG (l', m', i + 1, ()) ⟨rfl, rfl, by simp only; omega, by simp only; omega⟩ (by simp only; omega)]
          simp only [Bool.true_and]
          rw [show (i + 1).toNat = i.toNat + 1 by omega]
        | false => rfl
      · rw [if_neg (by simpa using hi), List.drop_eq_nil_of_le (by omega), List.drop_eq_nil_of_le (by omega)]
        rfl
    · exact ⟨rfl, rfl, by simp, by simp⟩
    · simp only
      omega
  · rw [if_pos (by simp; omega), allEq_len hlen]

def eqR {α : Type} (k : Nat) (d : α) (S : α × α × Unit → Option (Bool × Unit)) (x : List α × List α × Unit) : Option (Bool × Unit) :=
  if ((((List.length x.1 : Nat) : Int) : Int) != ((List.length x.2.1 : Nat) : Int)) = true then
    some (false, ())
  else
    loopN k (fun G1 (t2 : List α × List α × Int × Int × Unit) =>
      if (decide ((t2.2.2.2.1 : Int) < t2.2.2.1)) = true then
        if (decide (0 ≤ t2.2.2.2.1 ∧ t2.2.2.2.1 < ((List.length t2.1 : Nat) : Int))) = true then
          if (decide (0 ≤ t2.2.2.2.1 ∧ t2.2.2.2.1 < ((List.length t2.2.1 : Nat) : Int))) = true then
            Option.bind (S (List.getD t2.1 (Int.toNat t2.2.2.2.1) d, List.getD t2.2.1 (Int.toNat t2.2.2.2.1) d, ())) fun (r3 : Bool × Unit) =>
            if (!r3.1) = true then
              some (false, ())
            else
              G1 (t2.1, t2.2.1, t2.2.2.1, IntKind.i64.wrap (t2.2.2.2.1 + 1), ())
          else
            none
        else
          none
      else
        some (true, ())) (x.1, x.2.1, ((List.length x.1 : Nat) : Int), 0, ())

theorem eqR_all {α : Type} {k : Nat} {d : α} {S : α × α × Unit → Option (Bool × Unit)} {p : α → α → Bool} {l m : List α} (hk : 9223372036854775808 ≤ k) (hl : l.length ≤ 281474976710656) (hS : ∀ a ∈ l, ∀ b ∈ m, S (a, b, ()) = some (p a b, ())) :
    eqR k d S (l, m, ()) = some (allEq p l m, ()) := by
  unfold eqR
  simp only
  by_cases hlen : l.length = m.length
  · rw [if_neg (by simp [hlen])]
    rw [loopN_ix (g := fun (s : List α × List α × Int × Int × Unit) => some (allEq p (l.drop s.2.2.2.1.toNat) (m.drop s.2.2.2.1.toNat), ())) (m := fun (s : List α × List α × Int × Int × Unit) => l.length - s.2.2.2.1.toNat)
      (I := fun (s : List α × List α × Int × Int × Unit) => s.1 = l ∧ s.2.1 = m ∧ s.2.2.1 = (l.length : Int) ∧ 0 ≤ s.2.2.2.1 ∧ s.2.2.2.1 ≤ (l.length : Int))]
    · simp
    · rintro G ⟨l', m', n, i, u⟩ ⟨e1, e2, e3, hi0, hi1⟩ hG
      change l' = l at e1
      change m' = m at e2
      change n = _ at e3
      subst e1 e2 e3
      simp only at hi0 hi1 hG ⊢
      by_cases hi : i < (l'.length : Int)
      · have h1 : i.toNat < l'.length := by omega
        have h2 : i.toNat < m'.length := by omega
        rw [if_pos (by simpa using hi), if_pos (by simpa using ⟨hi0, hi⟩), if_pos (by simpa using ⟨hi0, by omega⟩)]
        rw [hS _ (getD_mem h1) _ (getD_mem h2), Option.bind_some, drop_getD (d := d) h1, drop_getD (d := d) h2]
        simp only [allEq]
        cases p (l'.getD i.toNat d) (m'.getD i.toNat d) with
        | true =>
          rw [if_neg (by simp), wrap64 (by omega) (by omega), hG (l', m', _, i + 1, ()) ⟨rfl, rfl, rfl, by simp only; omega, by simp only; omega⟩ (by simp only; omega)]
          simp only [Bool.true_and]
          rw [show (i + 1).toNat = i.toNat + 1 by omega]
        | false => rfl
      · rw [if_neg (by simpa using hi), List.drop_eq_nil_of_le (by omega), List.drop_eq_nil_of_le (by omega)]
        rfl
    · exact ⟨rfl, rfl, rfl, by simp, by simp⟩
    · simp only
      omega
  · rw [if_pos (by simp; omega), allEq_len hlen]

theorem ite_some {α : Type} {c : Prop} [Decidable c] (a b : α) : (if c then some a else some b) = some (if c then a else b) := by split <;> rfl

theorem toList_inj {a b : ByteArray} (h : a.toList = b.toList) : a = b := by
  rw [ByteArray.toList_eq, ByteArray.toList_eq] at h
  cases a; cases b
  simp at h
  rw [h]

theorem eqv_iff : ∀ {τ : Ty} {a b : τ.den}, τ.flat = true → (eqv τ a b = true ↔ a = b)
  | .int _, a, b, _ => by simp [eqv]
  | .bool, a, b, _ => by simp [eqv]
  | .str, a, b, _ => by
    simp only [eqv, beq_iff_eq]
    exact ⟨toList_inj, fun h => by rw [h]⟩
  | .pair x y, a, b, h => by
    simp only [Ty.flat, Bool.and_eq_true] at h
    simp only [eqv, Bool.and_eq_true, eqv_iff h.1, eqv_iff h.2]
    exact ⟨fun h => Prod.ext h.1 h.2, fun h => by rw [h]; exact ⟨rfl, rfl⟩⟩
  | .sl _, _, _, h => by simp [Ty.flat] at h

theorem le_sum {α : Type} {f : α → Nat} : ∀ {l : List α} {x : α}, x ∈ l → f x ≤ (l.map f).sum
  | y :: l, x, h => by
    simp only [List.map_cons, List.sum_cons]
    rcases List.mem_cons.1 h with rfl | h
    · omega
    · have := le_sum (f := f) h; omega

theorem tot_mem {e : Ty} {l : List e.den} {x : e.den} (hx : x ∈ l) : tot e x ≤ tot (.sl e) l := by
  simp only [tot]
  have := le_sum (f := tot e) hx
  omega

theorem tot_len {e : Ty} {l : List e.den} : l.length ≤ tot (.sl e) l := by simp only [tot]; omega

end Vg

/- VG, part 52: loops that ask one thing of each place. -/
namespace Vg
open Go

/-- p at all places from a on, below n. -/
def allB (a n : Nat) (p : Nat → Bool) : Bool := (List.range' a (n - a)).all p

theorem allB_iff {a n : Nat} {p : Nat → Bool} : allB a n p = true ↔ ∀ i, a ≤ i → i < n → p i = true := by
  simp only [allB, List.all_eq_true, List.mem_range'_1]
  constructor
  · intro h i h1 h2; exact h i ⟨h1, by omega⟩
  · intro h i hi; exact h i hi.1 (by omega)

theorem allB_step {a n : Nat} {p : Nat → Bool} (h : a < n) : allB a n p = (p a && allB (a + 1) n p) := by
  unfold allB
  rw [show n - a = (n - (a + 1)) + 1 by omega, List.range'_succ]
  rfl

theorem allB_nil {a n : Nat} {p : Nat → Bool} (h : n ≤ a) : allB a n p = true := by
  unfold allB
  rw [show n - a = 0 by omega]
  rfl

theorem allB_congr {a n : Nat} {p q : Nat → Bool} (h : ∀ i, a ≤ i → i < n → p i = q i) : allB a n p = allB a n q := by
  rw [Bool.eq_iff_iff, allB_iff, allB_iff]
  exact ⟨fun H i h1 h2 => h i h1 h2 ▸ H i h1 h2, fun H i h1 h2 => (h i h1 h2).symm ▸ H i h1 h2⟩

theorem allB_and {a n : Nat} {p q : Nat → Bool} : allB a n (fun i => p i && q i) = (allB a n p && allB a n q) := by
  rw [Bool.eq_iff_iff, Bool.and_eq_true, allB_iff, allB_iff, allB_iff]
  simp only [Bool.and_eq_true]
  exact ⟨fun H => ⟨fun i h1 h2 => (H i h1 h2).1, fun i h1 h2 => (H i h1 h2).2⟩, fun H i h1 h2 => ⟨H.1 i h1 h2, H.2 i h1 h2⟩⟩

/-- No more places than m: asked of each place. -/
theorem allB_lt {n m : Nat} : allB 0 n (fun i => decide (i < m)) = decide (n ≤ m) := by
  rw [Bool.eq_iff_iff, allB_iff]
  simp only [decide_eq_true_eq]
  constructor
  · intro h
    rcases Nat.lt_or_ge m n with h1 | h1
    · have := h m (by omega) h1; omega
    · exact h1
  · intro h i _ h2; omega

/-- A loop that ends early where p fails. -/
theorem loop_all {σ ρ : Type} {f : (σ → Option ρ) → σ → Option ρ} (st : Nat → σ) (p : Nat → Bool) (n : Nat) {e no : Option ρ}
    (hstep : ∀ G i, i < n → f G (st i) = if p i = true then G (st (i + 1)) else no) (hend : ∀ G i, n ≤ i → f G (st i) = e) :
    ∀ (k a : Nat), n - a < k → loopN k f (st a) = if allB a n p = true then e else no
  | 0, _, h => by omega
  | k + 1, a, h => by
    show f (loopN k f) (st a) = _
    by_cases ha : a < n
    · rw [hstep _ a ha, allB_step ha, loop_all st p n hstep hend k (a + 1) (by omega)]
      cases p a <;> simp
    · rw [hend _ a (by omega), allB_nil (by omega), if_pos rfl]

/-- A loop that ends early where p holds. -/
theorem loop_any {σ ρ : Type} {f : (σ → Option ρ) → σ → Option ρ} (st : Nat → σ) (p : Nat → Bool) (n : Nat) {e yes : Option ρ}
    (hstep : ∀ G i, i < n → f G (st i) = if p i = true then yes else G (st (i + 1))) (hend : ∀ G i, n ≤ i → f G (st i) = e) (k a : Nat) (hk : n - a < k) :
    loopN k f (st a) = if allB a n (fun i => !p i) = true then e else yes :=
  loop_all st (fun i => !p i) n (fun G i hi => by rw [hstep G i hi]; cases p i <;> rfl) hend k a hk

/-- A loop that goes through all its states. -/
theorem loop_run {σ ρ : Type} {f : (σ → Option ρ) → σ → Option ρ} (st : Nat → σ) (n : Nat) {e : Option ρ} (hstep : ∀ G i, i < n → f G (st i) = G (st (i + 1))) (hend : ∀ G, f G (st n) = e) :
    ∀ (k a : Nat), a ≤ n → n - a < k → loopN k f (st a) = e
  | 0, _, _, h => by omega
  | k + 1, a, ha, h => by
    show f (loopN k f) (st a) = _
    by_cases hn : a = n
    · subst hn; exact hend _
    · rw [hstep _ a (by omega), loop_run st n hstep hend k (a + 1) (by omega) (by omega)]

theorem wrapS {i : Nat} (h : i < 4611686018427387904) : IntKind.i64.wrap ((i : Int) + 1) = ((i + 1 : Nat) : Int) := by
  rw [wrap64 (by omega) (by omega)]; rfl

theorem wrapP {i : Nat} (h : i < 4611686018427387904) : IntKind.i64.wrap ((i : Int) - 1) = (i : Int) - 1 := wrap64 (by omega) (by omega)

theorem in_nat {i n : Nat} (h : i < n) : (decide ((0 : Int) ≤ (i : Int) ∧ (i : Int) < (n : Int))) = true := by simp; omega

theorem lt_nat {i n : Nat} : (decide ((i : Int) < (n : Int))) = decide (i < n) := by simp

end Vg

/- VG, part 53: contracts of library functions, from what the shelf of contracts says of them. -/
namespace Vg
open Go Go.RowKit

theorem repL_str {w : World} : ∀ {l : List ByteArray} {cs : List Value} {B : List Nat}, RepL (Rep w .str) l cs B → cs = l.map Value.string
  | [], _, _, h => h.1
  | x :: l, cs, B, h => by
    obtain ⟨c1, c2, B1, B2, rfl, _, h1, h2⟩ := h
    rw [h1.1, repL_str h2]
    rfl

theorem map_at {l : List ByteArray} {j : Nat} {x : ByteArray} (h : l[j]? = some x) : (l.map Value.string)[j]? = some (.string x) := by rw [List.getElem?_map, h]; rfl

/-- A value result, no memory: what is left behind where nothing old has turned. -/
theorem post_below {ps : List PK} {τ : Ty} {F : TupD (ps.map PK.ty) → Option (TupD ([RK.val τ .leaf].map RK.ty ++ ioTys ps))} {w w' : World} {G0 : Gh} {args : List Value} {nt : Nat} {L : List SV} (hlot : Lot w G0 L args nt)
    (hio : ∀ x : TupD (ioTys ps), iosOf [2, 1] ps x (entBox ps 0 3) = fun _ => []) {y : TupD ([RK.val τ .leaf].map RK.ty ++ ioTys ps)} {mv : Value} (hb : Below w.heap.size w w')
    (hv : SOk w' G0 (.d ⟨τ, y.1, .leaf⟩) mv) : Post ⟨ps, [.val τ .leaf], F, []⟩ w G0 args y mv w' G0 [mv] nt where
  val := rfl
  len := rfl
  res i := by
    cases i with
    | zero => exact hv
    | succ i =>
      have : (scatter [RK.val τ .leaf] (ioTys ps) y (entNt ps 3) [2, 1]).1.getD (i + 1) .no = .no := by
        show ([SV.d ⟨τ, y.1, Sh.leaf⟩]).getD (i + 1) .no = .no
        rfl
      rw [this]
      trivial
  ios t i v h := by rw [hio] at h; cases h
  frame b hbs _ := ⟨rfl, hb.block b hbs⟩
  one b h := ⟨(hlot.colU b (by omega)).2, h⟩
  size := hb.size
  os := hb.os
  tape := hb.tape
  output := hb.output
  lt b h := Nat.lt_of_lt_of_le (hlot.colU b h).2 hb.size
  fresh b h := by rw [hb.block b (hlot.colU b (by omega)).2]; exact hlot.fresh b h
  kept q hq := by cases hq

theorem upon_calls {P : Program} {f : FuncId} {fn : Func} (hf : P.funcs[f]? = some fn) (hname : (fn.name == "runtime.NumGoroutine") = false) (hb : fn.body.isSome = true) {w : World} {args : Array Value} {R : Value → World → Prop}
    (h : Calls P f args w (fun e w' => ∃ v, e = .returned v ∧ R v w')) : Upon P f args w R := by
  obtain ⟨c, hc⟩ := Option.isSome_iff_exists.1 hb
  have hrun : (callFunc f args).run P w = .ok (.enter f args) w := by
    have hne : fn.name ≠ "runtime.NumGoroutine" := by simpa using hname
    unfold callFunc
    simp [hf, hne, hc]
  unfold Upon
  rw [hrun]
  exact h

def joinL (l : List ByteArray) (sep : ByteArray) : List UInt8 := Lib.join (l.map (·.data.toList)) sep.data.toList

/-- strings.Join. -/
def joinF (x : List ByteArray × ByteArray × Unit) : Option (ByteArray × Unit) :=
  if x.1.length ≤ 140737488355328 ∧ (joinL x.1 x.2.1).length ≤ 140737488355328 then some (⟨(joinL x.1 x.2.1).toArray⟩, ()) else none

theorem meets_join {P : Program} {f : FuncId} {fn : Func} (hf : P.funcs[f]? = some fn) (hname : (fn.name == "runtime.NumGoroutine") = false) (hb : fn.body.isSome = true)
    (h0 : ∀ (a : Option Addr) (c : Nat) (sep : ByteArray) (w : World), Calls P f #[.slice a 0 c, .string sep] w fun e w' => e = .returned (.string ⟨#[]⟩) ∧ w' = w)
    (h1 : ∀ (bk o c : Nat) (xs : List ByteArray) (sep : ByteArray) (w : World), (∀ (j : Nat) x, xs[j]? = some x → w.cell? ⟨bk, o + j, none⟩ = some (.string x)) → bk < w.heap.size → xs.length ≤ 140737488355328 → xs.length ≤ c →
      (Lib.join (xs.map (·.data.toList)) sep.data.toList).length ≤ 140737488355328 →
      Calls P f #[.slice (some ⟨bk, o, none⟩) xs.length c, .string sep] w fun e w' => e = .returned (.string ⟨(Lib.join (xs.map (·.data.toList)) sep.data.toList).toArray⟩) ∧ Below w.heap.size w w') :
    Meets P f ⟨[.val (.sl .str) .shr, .val .str .leaf], [.val .str .leaf], joinF, []⟩ := by
  intro w G0 args x y hy hlot
  obtain ⟨l, sep, u⟩ := x
  have hlen : args.length = 2 := hlot.len
  obtain ⟨v0, v1, rfl⟩ : ∃ v0 v1, args = [v0, v1] := by
    match args, hlen with
    | [a, b], _ => exact ⟨a, b, rfl⟩
  have s0 : SOk w G0 (.d ⟨.sl .str, l, .sl (.sha [1])⟩) v0 := hlot.slots 0
  have s1 : SOk w G0 (.d ⟨.str, sep, .leaf⟩) v1 := hlot.slots 1
  obtain ⟨cs1, e1, q1⟩ := s1
  have q1' : cs1 = [.string sep] := q1
  subst q1'
  have e1' : v1 = .string sep := e1
  subst e1'
  obtain ⟨cs0, e0, v, rfl, hrow⟩ := s0
  have e0' : v0 = v := e0
  subst e0'
  have hy : joinF (l, sep, u) = some y := hy
  unfold joinF at hy
  split at hy
  · rename_i hc
    have hy' := Option.some.inj hy
    subst hy'
    refine upon_calls hf hname hb ?_
    obtain ⟨⟨B, hrep, _⟩, _⟩ := hrow
    have fin : ∀ w', Below w.heap.size w w' → ∃ G' vs nt, Post ⟨[.val (.sl .str) .shr, .val .str .leaf], [.val .str .leaf], joinF, []⟩ w G0 [v0, .string sep] (⟨(joinL l sep).toArray⟩, ()) (.string ⟨(joinL l sep).toArray⟩) w' G' vs nt :=
      fun w' hbl => ⟨G0, _, _, post_below (ps := [.val (.sl .str) .shr, .val .str .leaf]) (τ := .str) (F := joinF) (y := (⟨(joinL l sep).toArray⟩, ())) hlot (fun _ => by funext n; rfl) hbl ⟨[.string ⟨(joinL l sep).toArray⟩], rfl, rfl⟩⟩
    rcases hrep with ⟨⟨ao, rfl⟩, rfl, _⟩ | ⟨b, off, cap, c, el, fz, Bs, rfl, hcap, hbk, hsz, _, hl⟩
    · refine (h0 ao 0 sep w).mono fun e w' ⟨he, hw⟩ => ⟨_, he, ?_⟩
      subst hw
      exact fin _ (Below.refl _ _)
    · have hcs := repL_str hl
      refine (h1 b off cap l sep w (fun j x hj => ?_) (lt_of_block hbk) hc.1 hcap hc.2).mono fun e w' ⟨he, hw⟩ => ⟨_, he, fin _ hw⟩
      unfold World.cell?
      simp only [hbk, Option.isSome_none, Bool.false_eq_true, if_false]
      have hjl : j < l.length := (List.getElem?_eq_some_iff.1 hj).1
      have h2 := map_at (l := l) hj
      rw [← hcs] at h2
      simp only [List.getElem?_take, List.getElem?_drop, Ty.sz, Nat.mul_one, hjl, if_true, Array.getElem?_toList] at h2
      exact h2
  · cases hy

end Vg

/- VG, part 68: loops that copy. -/
namespace Vg
open Go

theorem beq_dec (a b : Int) : (a == b) = decide (a = b) := rfl
theorem bne_dec (a b : Int) : (a != b) = !decide (a = b) := rfl

theorem tbf : (true == false) = false := rfl
theorem fbt : (false == true) = false := rfl

theorem take_getD {α : Type} {l : List α} {i : Nat} (d : α) (h : i < l.length) : l.take (i + 1) = l.take i ++ [l.getD i d] := by
  rw [List.take_succ_eq_append_getElem h, List.getD_eq_getElem?_getD, List.getElem?_eq_getElem h]; rfl

theorem filter_one {α : Type} (p : α → Bool) (a : α) : [a].filter p = if p a = true then [a] else [] := by
  cases h : p a <;> simp [List.filter, h]

theorem map_take {α β : Type} {f : α → β} {l : List α} {i : Nat} (d : α) (h : i < l.length) : (l.take (i + 1)).map f = (l.take i).map f ++ [f (l.getD i d)] := by
  rw [take_getD d h, List.map_append]; rfl

def cpS {α β : Type} (k : Nat) (d : α) (S : α × Unit → Option (β × Unit)) (x : List α × Unit) : Option (List β × Unit) :=
  loopN k (fun G1 (t2 : List α × List β × Int × Unit) =>
    if (decide ((t2.2.2.1 : Int) < ((List.length t2.1 : Nat) : Int))) = true then
      if (decide (0 ≤ t2.2.2.1 ∧ t2.2.2.1 < ((List.length t2.1 : Nat) : Int))) = true then
        Option.bind (S (List.getD t2.1 (Int.toNat t2.2.2.1) d, ())) fun (r3 : β × Unit) =>
        if (decide (List.length t2.2.1 + List.length ([r3.1] : List β) < 4294967296)) = true then
          G1 (t2.1, t2.2.1 ++ ([r3.1] : List β), IntKind.i64.wrap (t2.2.2.1 + (1 : Int)), ())
        else
          none
      else
        none
    else
      some (t2.2.1, ())) (x.1, ([] : List β), (0 : Int), ())

theorem cpS_ok {α β : Type} {k : Nat} {d : α} {S : α × Unit → Option (β × Unit)} (f : α → β) {l : List α} (hk : 9223372036854775808 ≤ k) (hl : l.length ≤ 1073741824) (hS : ∀ e ∈ l, S (e, ()) = some (f e, ())) : cpS k d S (l, ()) = some (l.map f, ()) := by
  unfold cpS
  refine loop_run (fun i => (l, (l.take i).map f, (i : Int), ())) l.length (fun G i hi => ?_) (fun G => ?_) k 0 (by omega) (by omega)
  · simp only [lt_nat, in_nat hi, hi, decide_true, if_true, Int.toNat_natCast]
    rw [hS _ (getD_mem hi), Option.bind_some, if_pos (by simp; omega), wrapS (by omega), map_take d hi]
  · simp

def cpR {α β : Type} (k : Nat) (d : α) (S : α × Unit → Option (β × Unit)) (x : List α × Unit) : Option (List β × Unit) :=
  loopN k (fun G1 (t2 : List β × List α × Int × Int × Unit) =>
    if (decide ((t2.2.2.2.1 : Int) < t2.2.2.1)) = true then
      if (decide (0 ≤ t2.2.2.2.1 ∧ t2.2.2.2.1 < ((List.length t2.2.1 : Nat) : Int))) = true then
        Option.bind (S (List.getD t2.2.1 (Int.toNat t2.2.2.2.1) d, ())) fun (r3 : β × Unit) =>
        if (decide (List.length t2.1 + List.length ([r3.1] : List β) < 4294967296)) = true then
          G1 (t2.1 ++ ([r3.1] : List β), t2.2.1, t2.2.2.1, IntKind.i64.wrap (t2.2.2.2.1 + (1 : Int)), ())
        else
          none
      else
        none
    else
      some (t2.1, ())) (([] : List β), x.1, ((List.length x.1 : Nat) : Int), (0 : Int), ())

theorem cpR_ok {α β : Type} {k : Nat} {d : α} {S : α × Unit → Option (β × Unit)} (f : α → β) {l : List α} (hk : 9223372036854775808 ≤ k) (hl : l.length ≤ 1073741824) (hS : ∀ e ∈ l, S (e, ()) = some (f e, ())) : cpR k d S (l, ()) = some (l.map f, ()) := by
  unfold cpR
  refine loop_run (fun i => ((l.take i).map f, l, (l.length : Int), (i : Int), ())) l.length (fun G i hi => ?_) (fun G => ?_) k 0 (by omega) (by omega)
  · simp only [lt_nat, in_nat hi, hi, decide_true, if_true, Int.toNat_natCast]
    rw [hS _ (getD_mem hi), Option.bind_some, if_pos (by simp; omega), wrapS (by omega), map_take d hi]
  · simp

theorem cpS_id {α : Type} {k : Nat} {d : α} {S : α × Unit → Option (α × Unit)} {l : List α} (hk : 9223372036854775808 ≤ k) (hl : l.length ≤ 1073741824) (hS : ∀ e ∈ l, S (e, ()) = some (e, ())) : cpS k d S (l, ()) = some (l, ()) := by
  have := cpS_ok (d := d) (fun e => e) hk hl hS
  rwa [List.map_id'] at this

theorem cpR_id {α : Type} {k : Nat} {d : α} {S : α × Unit → Option (α × Unit)} {l : List α} (hk : 9223372036854775808 ≤ k) (hl : l.length ≤ 1073741824) (hS : ∀ e ∈ l, S (e, ()) = some (e, ())) : cpR k d S (l, ()) = some (l, ()) := by
  have := cpR_ok (d := d) (fun e => e) hk hl hS
  rwa [List.map_id'] at this

theorem tot_filter {e : Ty} (p : e.den → Bool) : ∀ (l : List e.den), tot (.sl e) (l.filter p) ≤ tot (.sl e) l
  | [] => Nat.le_refl _
  | x :: l => by
    have := tot_filter p l
    by_cases h : p x = true
    · rw [List.filter_cons_of_pos h]; simp only [tot, List.length_cons, List.map_cons, List.sum_cons] at this ⊢; omega
    · rw [List.filter_cons_of_neg h]; simp only [tot, List.length_cons, List.map_cons, List.sum_cons] at this ⊢; omega

theorem tot_app {e : Ty} (l m : List e.den) : tot (.sl e) (l ++ m) = tot (.sl e) l + tot (.sl e) m := by
  simp only [tot, List.length_append, List.map_append, List.sum_append]; omega

theorem tot_cons {e : Ty} (x : e.den) (l : List e.den) : tot (.sl e) (x :: l) = 1 + tot e x + tot (.sl e) l := by
  simp only [tot, List.length_cons, List.map_cons, List.sum_cons]; omega

theorem tot_nil {e : Ty} : tot (.sl e) ([] : List e.den) = 0 := by simp [tot]

theorem tot_set {e : Ty} : ∀ (l : List e.den) (i : Nat) (x : e.den), i < l.length → tot (.sl e) (l.set i x) + tot e (l.getD i e.dflt) = tot (.sl e) l + tot e x
  | [], i, x, h => by simp at h
  | y :: l, 0, x, h => by rw [List.set_cons_zero, tot_cons, tot_cons]; simp; omega
  | y :: l, i + 1, x, h => by
    have := tot_set l i x (by simpa using h)
    rw [List.set_cons_succ, tot_cons, tot_cons, List.getD_cons_succ]
    omega

theorem tot_take {e : Ty} (l : List e.den) (i : Nat) : tot (.sl e) (l.take i) + tot (.sl e) (l.drop i) = tot (.sl e) l := by
  rw [← tot_app, List.take_append_drop]

/-- The first place of which p holds. -/
def idxB (n : Nat) (p : Nat → Bool) : Option Nat := (List.range n).find? p

def posI : Option Nat → Int
  | some i => (i : Int)
  | none => -1

theorem idxB_some {n : Nat} {p : Nat → Bool} {i : Nat} : idxB n p = some i ↔ i < n ∧ p i = true ∧ ∀ j, j < i → p j = false := by
  unfold idxB
  rw [List.find?_range_eq_some]
  constructor
  · rintro ⟨h1, h2, h3⟩
    exact ⟨List.mem_range.1 h2, h1, fun j hj => by simpa using h3 j hj⟩
  · rintro ⟨h1, h2, h3⟩
    exact ⟨h2, List.mem_range.2 h1, fun j hj => by simpa using h3 j hj⟩

theorem idxB_none {n : Nat} {p : Nat → Bool} : idxB n p = none ↔ ∀ i, i < n → p i = false := by
  unfold idxB
  rw [List.find?_range_eq_none]
  constructor
  · intro h i hi; simpa using h i hi
  · intro h i hi; simpa using h i hi

theorem idxB_congr {n : Nat} {p q : Nat → Bool} (h : ∀ i, i < n → p i = q i) : idxB n p = idxB n q := by
  cases hq : idxB n q with
  | none => rw [idxB_none] at hq ⊢; exact fun i hi => (h i hi).trans (hq i hi)
  | some i =>
    rw [idxB_some] at hq ⊢
    exact ⟨hq.1, (h i hq.1).trans hq.2.1, fun j hj => (h j (by omega)).trans (hq.2.2 j hj)⟩

theorem posI_neg {o : Option Nat} : posI o < 0 ↔ o = none := by
  cases o with
  | none => simp [posI]
  | some i => simp [posI]

/-- A loop that ends at the first place of which p holds. -/
theorem loop_find {σ ρ : Type} {f : (σ → Option ρ) → σ → Option ρ} (st : Nat → σ) (p : Nat → Bool) (n : Nat) {e : Option ρ} (hit : Nat → Option ρ)
    (hstep : ∀ G i, i < n → f G (st i) = if p i = true then hit i else G (st (i + 1))) (hend : ∀ G, f G (st n) = e) (k : Nat) (hk : n < k) :
    loopN k f (st 0) = match idxB n p with | some i => hit i | none => e := by
  have key : ∀ (k a : Nat), a ≤ n → n - a < k → (∀ j, j < a → p j = false) → loopN k f (st a) = match idxB n p with | some i => hit i | none => e := by
    intro k
    induction k with
    | zero => intro a _ h; omega
    | succ k ih =>
      intro a ha h hp
      show f (loopN k f) (st a) = _
      by_cases hn : a = n
      · subst hn
        rw [hend, (idxB_none (n := a) (p := p)).2 hp]
      · rw [hstep _ a (by omega)]
        cases hpa : p a with
        | true => rw [if_pos rfl, (idxB_some (i := a)).2 ⟨by omega, hpa, hp⟩]
        | false =>
          rw [if_neg (by simp), ih (a + 1) (by omega) (by omega) (fun j hj => by
            rcases Nat.lt_or_ge j a with h | h
            · exact hp j h
            · obtain rfl : j = a := by omega
              exact hpa)]
  exact key k 0 (by omega) (by omega) (by omega)

end Vg

/- VG, part 71: alarms put in order by their labels. -/
namespace Vg
open Go

def lessB (a b : ByteArray) : Bool := Op.bytesLess a.toList b.toList

/-- Labels, place by place. -/
def setLess : List (ByteArray × ByteArray) → List (ByteArray × ByteArray) → Bool
  | [], b => !b.isEmpty
  | _ :: _, [] => false
  | a :: l, b :: m => if a.1.toList == b.1.toList then (if a.2.toList == b.2.toList then setLess l m else lessB a.2 b.2) else lessB a.1 b.1

/-- Behind all that it is not less than: from the end on. -/
def insRev {α : Type} (lt : α → α → Bool) (x : α) : List α → List α
  | [] => [x]
  | y :: r => if lt x y = true then y :: insRev lt x r else x :: y :: r

def sortBy {α : Type} (lt : α → α → Bool) (l : List α) : List α := (l.foldl (fun r x => insRev lt x r) []).reverse

abbrev lessA (a b : List (ByteArray × ByteArray) × Int × Int × ByteArray) : Bool := setLess a.1 b.1
def sortL (l : List (List (ByteArray × ByteArray) × Int × Int × ByteArray)) : List (List (ByteArray × ByteArray) × Int × Int × ByteArray) := sortBy lessA l

end Vg

/- What is drawn: it ends, and what it answers is small. -/
namespace Vg
open Go

/-- it ends with an answer of which Q holds -/
def Dr {α : Type} (o : Option α) (Q : α → Prop) : Prop := ∃ a, o = some a ∧ Q a

theorem drS {α : Type} {a : α} {Q : α → Prop} (h : Q a) : Dr (some a) Q := ⟨a, rfl, h⟩
theorem drE {α : Type} {o : Option α} {a : α} {Q : α → Prop} (e : o = some a) (h : Q a) : Dr o Q := ⟨a, e, h⟩
theorem drM {α : Type} {o : Option α} {P Q : α → Prop} (h : Dr o P) (hq : ∀ a, P a → Q a) : Dr o Q := by
  obtain ⟨a, e, h⟩ := h; exact ⟨a, e, hq a h⟩
theorem drB {α β : Type} {o : Option α} {f : α → Option β} {P : α → Prop} {Q : β → Prop} (h : Dr o P) (hf : ∀ a, P a → Dr (f a) Q) : Dr (Option.bind o f) Q := by
  obtain ⟨a, e, h⟩ := h
  obtain ⟨b, e2, h2⟩ := hf a h
  exact ⟨b, by rw [e, Option.bind_some, e2], h2⟩
theorem drBE {α β : Type} {o : Option α} {a : α} {f : α → Option β} {Q : β → Prop} (e : o = some a) (hf : Dr (f a) Q) : Dr (Option.bind o f) Q := by
  rw [e, Option.bind_some]; exact hf
theorem drI {α : Type} {b : Bool} {o p : Option α} {Q : α → Prop} (h1 : b = true → Dr o Q) (h2 : b = false → Dr p Q) : Dr (if b = true then o else p) Q := by
  cases b
  · rw [if_neg (by simp)]; exact h2 rfl
  · rw [if_pos rfl]; exact h1 rfl
theorem drT {α : Type} {b : Bool} {o p : Option α} {Q : α → Prop} (hb : b = true) (h : Dr o Q) : Dr (if b = true then o else p) Q := by rw [if_pos hb]; exact h
theorem drJ {σ ρ : Type} {a : (σ → Option ρ) → Option ρ} {b : σ → Option ρ} {Q : ρ → Prop} (P : σ → Prop) (hb : ∀ s, P s → Dr (b s) Q) (h : ∀ J : σ → Option ρ, (∀ s, P s → Dr (J s) Q) → Dr (a J) Q) : Dr (joinC a b) Q := h b hb
theorem drL {σ ρ : Type} {f : (σ → Option ρ) → σ → Option ρ} {Q : ρ → Prop} (m : σ → Nat) (I : σ → Prop)
    (h : ∀ G s, I s → (∀ s', I s' → m s' < m s → Dr (G s') Q) → Dr (f G s) Q) {k : Nat} {s : σ} (h0 : I s) (hm : m s < k) : Dr (loopN k f s) Q :=
  loopN_tot m I Q h k s h0 hm

theorem and255 (a : Int) : 0 ≤ bits (fun _ => (· &&& ·)) .i64 a (255 : Int) ∧ bits (fun _ => (· &&& ·)) .i64 a (255 : Int) ≤ 255 := by
  have key : bits (fun _ => (· &&& ·)) .i64 a (255 : Int) = ((((BitVec.ofInt 64 a).toNat % 256 : Nat)) : Int) := by
    change IntKind.i64.wrap (((BitVec.ofInt 64 a &&& BitVec.ofInt 64 (255 : Int)).toNat : Nat) : Int) = _
    rw [BitVec.toNat_and]
    have e2 : (BitVec.ofInt 64 (255 : Int)).toNat = 2 ^ 8 - 1 := by decide
    rw [e2, Nat.and_two_pow_sub_one_eq_mod, wrap64 (by omega) (by omega)]
  rw [key]; omega

/-- the cursor of a draw: (code, place, mix) -/
def CurOk (c : List Int × Int × Int) : Prop := c.1.length ≤ 1048576 ∧ 0 ≤ c.2.1 ∧ c.2.1 ≤ 1048576

end Vg

/- VG, part 67: plain laws of what marks and what is held: each mark stands where it was put. -/
namespace Vg
open Go

/-- The bound of all numbers that are put. -/
def markB : Int := 2147483648

/-- What is marked from n on is held from n on, and both come to the same number. -/
def MkOk (τ : Ty) (mk : τ.den → Int → Option (Int × τ.den)) (hd : τ.den × Int × Unit → Option (Int × Unit)) : Prop :=
  ∀ (x : τ.den) (n : Int), 1 ≤ n → n + 20 * (tot τ x : Int) ≤ markB → ∃ n' x', mk x n = some (n', x') ∧ n ≤ n' ∧ n' ≤ n + 20 * (tot τ x : Int) ∧ hd (x', n, ()) = some (n', ())

theorem getD_set_self {α : Type} {l : List α} {i : Nat} {v d : α} (h : i < l.length) : (l.set i v).getD i d = v := by
  rw [List.getD_eq_getElem?_getD, List.getElem?_set_self h]; rfl

theorem set_mid {α : Type} (d r : List α) (x y : α) : (d ++ x :: r).set d.length y = d ++ y :: r := by
  simp

theorem getD_mid {α : Type} (d r : List α) (x z : α) : (d ++ x :: r).getD d.length z = x := by
  simp

theorem letC_mid {α β : Type} {d r : List α} {x v : α} {K : List α → β} : letC ((d ++ x :: r).set d.length v) K = K (d ++ v :: r) := by
  unfold letC; rw [set_mid]

theorem in_mid {α : Type} (d r : List α) (x : α) : decide ((0 : Int) ≤ ((d.length : Nat) : Int) ∧ ((d.length : Nat) : Int) < (((d ++ x :: r).length : Nat) : Int)) = true := by
  simp; omega

theorem if_mid {α β : Type} {d r : List α} {x : α} {a b : β} : (if decide ((0 : Int) ≤ ((d.length : Nat) : Int) ∧ ((d.length : Nat) : Int) < (((d ++ x :: r).length : Nat) : Int)) = true then a else b) = a := if_pos (in_mid d r x)

theorem if_lt_mid {α β : Type} {d r : List α} {x : α} {a b : β} : (if decide (((d.length : Nat) : Int) < (((d ++ x :: r).length : Nat) : Int)) = true then a else b) = a := if_pos (by simp; omega)

theorem wrap_mid {i : Nat} (h : i ≤ 1073741824) : IntKind.i64.wrap ((i : Int) + 1) = ((i + 1 : Nat) : Int) := by
  rw [wrap64 (by omega) (by omega)]; rfl

theorem letC_step {α β : Type} {d r : List α} {x v y : α} {K : List α → β} (h : v = y) : letC ((d ++ x :: r).set d.length v) K = K (d ++ y :: r) := by
  rw [h, letC_mid]

theorem letC_tr {α β : Type} {d r : List α} {x v y : α} {K : List α → β} {R : β} (h : v = y) (h2 : K (d ++ y :: r) = R) : letC ((d ++ x :: r).set d.length v) K = R := by
  rw [h, letC_mid, h2]

theorem if_mid_tr {α β : Type} {d r : List α} {x : α} {a b R : β} (h : a = R) : (if decide ((0 : Int) ≤ ((d.length : Nat) : Int) ∧ ((d.length : Nat) : Int) < (((d ++ x :: r).length : Nat) : Int)) = true then a else b) = R := by rw [if_mid, h]

theorem bind_tr {α β : Type} {o : Option α} {r : α} {f : α → Option β} {R : Option β} (h : o = some r) (h2 : f r = R) : Option.bind o f = R := by rw [h]; exact h2

theorem if_no {β : Type} {c : Bool} {a b : β} (h : c = false) : (if c = true then a else b) = b := by rw [h]; rfl

theorem bne_no {a b : Int} (h : a = b) : (a != b) = false := by simp [h]

theorem txt_no {a b : ByteArray} (h : a = b) : (!(a.toList == b.toList)) = false := by simp [h]

theorem bool_no {a b : Bool} (h : a = b) : (!(a == b)) = false := by simp [h]

theorem bind_eq {α β : Type} {o : Option α} {r : α} (h : o = some r) (f : α → Option β) : Option.bind o f = f r := by rw [h]; rfl

/-- One round of a loop that marks, and of the loop that looks after it. -/
def MkStep (e : Ty) (fM : (List e.den × Int × Int × Unit → Option (Int × List e.den)) → List e.den × Int × Int × Unit → Option (Int × List e.den))
    (fH : (List e.den × Int × Int × Unit → Option (Int × Unit)) → List e.den × Int × Int × Unit → Option (Int × Unit)) : Prop :=
  ∀ (x : e.den) (n : Int), 1 ≤ n → n + 20 * ((1 + tot e x : Nat) : Int) ≤ markB → ∃ n' x', n ≤ n' ∧ n' ≤ n + 20 * ((1 + tot e x : Nat) : Int) ∧
    (∀ G (d r : List e.den), d.length ≤ 1073741824 → fM G (d ++ x :: r, n, (d.length : Int), ()) = G (d ++ x' :: r, n', ((d.length + 1 : Nat) : Int), ())) ∧
    (∀ G (d r : List e.den), d.length ≤ 1073741824 → fH G (d ++ x' :: r, n, (d.length : Int), ()) = G (d ++ x' :: r, n', ((d.length + 1 : Nat) : Int), ()))

theorem markS_run {e : Ty} {fM : (List e.den × Int × Int × Unit → Option (Int × List e.den)) → List e.den × Int × Int × Unit → Option (Int × List e.den)}
    {fH : (List e.den × Int × Int × Unit → Option (Int × Unit)) → List e.den × Int × Int × Unit → Option (Int × Unit)}
    (endM : ∀ G (l : List e.den) (n : Int) (i : Nat), l.length ≤ i → fM G (l, n, (i : Int), ()) = some (n, l))
    (endH : ∀ G (l : List e.den) (n : Int) (i : Nat), l.length ≤ i → fH G (l, n, (i : Int), ()) = some (n, ()))
    (step : MkStep e fM fH) : ∀ (r d : List e.den) (n : Int) (kM kH : Nat), r.length < kM → r.length < kH → (d ++ r).length ≤ 1073741824 → 1 ≤ n → n + 20 * (tot (.sl e) r : Int) ≤ markB →
      ∃ n' r', r'.length = r.length ∧ loopN kM fM (d ++ r, n, (d.length : Int), ()) = some (n', d ++ r') ∧ n ≤ n' ∧ n' ≤ n + 20 * (tot (.sl e) r : Int) ∧
        ∀ d' : List e.den, d'.length = d.length → loopN kH fH (d' ++ r', n, (d'.length : Int), ()) = some (n', ())
  | [], d, n, 0, _, h1, _, _, _, _ => by simp at h1
  | [], d, n, _ + 1, 0, _, h2, _, _, _ => by simp at h2
  | [], d, n, kM + 1, kH + 1, _, _, _, _, hb => by
    refine ⟨n, [], rfl, endM _ _ _ _ (by simp), Int.le_refl _, by simp [tot], fun d' hd => ?_⟩
    exact endH _ _ _ _ (by simp)
  | x :: r, d, n, 0, _, h1, _, _, _, _ => by simp at h1
  | x :: r, d, n, _ + 1, 0, _, h2, _, _, _ => by simp at h2
  | x :: r, d, n, kM + 1, kH + 1, h1, h2, hl, hn, hb => by
    have ht : tot (.sl e) (x :: r) = (1 + tot e x) + tot (.sl e) r := by simp only [tot, List.length_cons, List.map_cons, List.sum_cons]; omega
    rw [ht] at hb
    obtain ⟨n1, x', a1, a2, a3, a4⟩ := step x n hn (by omega)
    simp only [List.length_cons] at h1 h2
    have hlen : d.length ≤ 1073741824 := by simp at hl; omega
    obtain ⟨n', r', b0, b1, b2, b3, b4⟩ := markS_run endM endH step r (d ++ [x']) n1 kM kH (by omega) (by omega) (by simp at hl ⊢; omega) (by omega) (by omega)
    refine ⟨n', x' :: r', by simp [b0], ?_, by omega, by rw [ht]; omega, fun d' hd => ?_⟩
    · show fM (loopN kM fM) (d ++ x :: r, n, (d.length : Int), ()) = _
      rw [a3 _ _ _ hlen]
      have := b1
      simp only [List.append_assoc, List.cons_append, List.nil_append, List.length_append, List.length_cons, List.length_nil] at this
      exact this
    · show fH (loopN kH fH) (d' ++ x' :: r', n, (d'.length : Int), ()) = _
      rw [a4 _ _ _ (by omega)]
      have := b4 (d' ++ [x']) (by simp [hd])
      simp only [List.append_assoc, List.cons_append, List.nil_append, List.length_append, List.length_cons, List.length_nil] at this
      exact this

/-- Loops that mark, and loops that look after them. -/
theorem markS_ok {e : Ty} {k : Nat} (hk : 9223372036854775808 ≤ k) {fM : (List e.den × Int × Int × Unit → Option (Int × List e.den)) → List e.den × Int × Int × Unit → Option (Int × List e.den)}
    {fH : (List e.den × Int × Int × Unit → Option (Int × Unit)) → List e.den × Int × Int × Unit → Option (Int × Unit)}
    (endM : ∀ G (l : List e.den) (n : Int) (i : Nat), l.length ≤ i → fM G (l, n, (i : Int), ()) = some (n, l))
    (endH : ∀ G (l : List e.den) (n : Int) (i : Nat), l.length ≤ i → fH G (l, n, (i : Int), ()) = some (n, ()))
    (step : MkStep e fM fH) : MkOk (.sl e) (fun l n => loopN k fM (l, n, (0 : Int), ())) (fun z => loopN k fH (z.1, z.2.1, (0 : Int), ())) := by
  intro l n hn hb
  have hl : l.length ≤ 1073741824 := by
    have := tot_len (e := e) (l := l)
    unfold markB at hb
    omega
  obtain ⟨n', l', _, h1, h2, h3, h4⟩ := markS_run endM endH step l [] n k k (by omega) (by omega) (by simpa using hl) hn hb
  exact ⟨n', l', h1, h2, h3, h4 [] rfl⟩

/-- Numbers are written. -/
theorem markText_tot {k : Nat} (hk : 9223372036854775808 ≤ k) {f : (Int × ByteArray × Unit → Option (ByteArray × Unit)) → Int × ByteArray × Unit → Option (ByteArray × Unit)}
    (hend : ∀ G (n : Int) (s : ByteArray), n ≤ 0 → s.size ≤ 2147483649 → ∃ r, f G (n, s, ()) = some r)
    (hstep : ∀ G (n : Int) (s : ByteArray), 0 < n → n ≤ markB → s.size ≤ 2147483648 → ∃ s', f G (n, s, ()) = G (n.tdiv 10, s', ()) ∧ s'.size = s.size + 1) (n : Int) (h : n ≤ markB) :
    ∃ r, loopN k f (n, ByteArray.empty, ()) = some r := by
  have := loopN_tot (f := f) (fun s => s.1.toNat) (fun s => s.1 ≤ markB ∧ (s.2.1.size : Int) + s.1.toNat ≤ markB + 1) (fun _ => True) (fun G s hs ih => by
    obtain ⟨m, t, u⟩ := s
    simp only at hs ih ⊢
    unfold markB at hs
    by_cases h0 : m ≤ 0
    · obtain ⟨r, hr⟩ := hend G m t h0 (by omega)
      exact ⟨r, hr, trivial⟩
    · obtain ⟨s', h1, h2⟩ := hstep G m t (by omega) (by unfold markB; omega) (by omega)
      have hd : m.tdiv 10 < m ∧ 0 ≤ m.tdiv 10 := by
        rw [Int.tdiv_eq_ediv_of_nonneg (by omega)]; omega
      obtain ⟨r, hr, _⟩ := ih (m.tdiv 10, s', ()) ⟨by unfold markB; omega, by simp only; unfold markB; omega⟩ (by simp only; omega)
      exact ⟨r, h1.trans hr, trivial⟩) k (n, ByteArray.empty, ()) ⟨h, by
        have e : ByteArray.empty.size = 0 := rfl
        simp only [e]; unfold markB at h ⊢; omega⟩ (by simp only; unfold markB at h; omega)
  obtain ⟨r, hr, _⟩ := this
  exact ⟨r, hr⟩

theorem ne3 : (decide ((3 : Int) ≠ 0)) = true := rfl

end Vg
