/- VG, joined: an evaluator of the code over typed values, and its soundness, for any program. -/
import Derived.Test.YtlpeoedbginanaaGreatVb
import Derived.WalkKit
import Derived.ProofKit
import Derived.OpenShut
import Derived.JoinedCond
import Derived.Carry
import Derived.Test.YtlpeoedbginanaaGreatVa
import Derived.KernelRfl
import Derived.Lib.Join
import Derived.Below
import Derived.Shelf.GgSortMore.Stable
import Derived.Shelf.SlSortFuncK.WholeK
set_option linter.unusedSimpArgs false
set_option linter.unusedVariables false
/- VG, part 33: a function's contract. -/
namespace Vg
open Go

section
variable {P : Program} {C : Cx} {w0 : World} {c0 : Nat → Nat} {U : Nat → Prop} {E : Env} {a : Act} {w : World} {G : Gh} {ops : List Oper} {L : Nat → Prop} {Q : Exit → Act → World → Prop} {ρ : Type}

theorem run_results {fn : Func} {tmps : Array Value} {vs : List Value} (h : (fn.results.toList.mapM (resRun tmps)).run P w = .ok vs w) : (results fn tmps).run P w = .ok (resVal vs) w := by
  have e : (fn.results.mapM (resRun tmps)).run P w = .ok vs.toArray w := by
    rw [Array.mapM_eq_mapM_toList]
    simp [h]
  have e2 : results fn tmps = (do let vs ← fn.results.mapM (resRun tmps); pure (if h : vs.size = 1 then vs[0] else .tuple vs)) := by
    unfold results
    congr 1
  rw [e2, Sem.run_bind, e]
  simp only [Result.andThen_ok, Sem.run_pure]
  congr 1
  match vs with
  | [] => rfl
  | [v] => rfl
  | _ :: _ :: _ => simp [resVal]

theorem scatter_rest : ∀ (rs : List RK) (rest : List Ty) (x : TupD (rs.map RK.ty)) (y : TupD rest) (k : Nat) (hs : List Nat), (scatter rs rest (TupD.app _ _ x y) k hs).2.1 = y
  | [], _, _, _, _, _ => rfl
  | .val _ _ :: rs, rest, x, y, _, hs => scatter_rest rs rest x.2 y _ hs
  | .nbox _ _ :: rs, rest, x, y, _, hs => scatter_rest rs rest x.2 y _ hs

theorem scatter_nt : ∀ (rs : List RK) (rest : List Ty) (y : TupD (rs.map RK.ty ++ rest)) (k : Nat) (hs : List Nat), (scatter rs rest y k hs).2.2 = resNt rs k
  | [], _, _, _, _ => rfl
  | .val _ p :: rs, rest, y, k, hs => by simp only [scatter, ptNext_eq]; exact scatter_nt rs rest y.2 _ hs
  | .nbox _ p :: rs, rest, y, k, hs => by simp only [scatter, ptNext_eq]; exact scatter_nt rs rest y.2 _ hs

theorem ioIdx_in : ∀ {ps : List PK} {i : Nat}, ∀ j ∈ ioIdx ps i, i ≤ j ∧ j < i + ps.length
  | [], _, j, h => by simp [ioIdx] at h
  | .val _ _ :: ps, i, j, h => by have := ioIdx_in (ps := ps) (i := i + 1) j h; simp only [List.length_cons]; omega
  | .io _ _ :: ps, i, j, h => by
    simp only [ioIdx, List.mem_cons] at h
    simp only [List.length_cons]
    rcases h with rfl | h
    · omega
    · have := ioIdx_in (ps := ps) (i := i + 1) j h; omega

/-- What a function leaves behind. -/
theorem fin_ok (hC : CxTy P C) {con : Con} {G0 : Gh} {args : List Value} (hI : Inv w0 G0.col U E a w G) {fn : Func} {y : TupD (con.rs.map RK.ty ++ ioTys con.ps)}
    (h : fin C.tt con.ps con.rs fn.results.toList (entNt con.ps 3) E = some y) (hT : ∀ i ∈ ioIdx con.ps 0, a.tmps.getD i undef = args.getD i undef) :
    ∃ mv G' vs nt, (results fn a.tmps).run P w = .ok mv w ∧ Post con w0 G0 args y mv w G' vs nt := by
  have h30 := entNt_ge con.ps 3
  unfold fin at h
  split at h
  · rename_i xs rho tk hrs
    split at h
    · rename_i ys rho' hio
      split at h
      · rename_i hok
        cases h
        obtain ⟨rfl, hk1, vs, hvl, hrun, H1, hf1⟩ := finRs_ok hC hI hrs h30
        have hge1 := resNt_ge con.rs (entNt con.ps 3)
        have hge2 := ioNt_ge con.ps (resNt con.rs (entNt con.ps 3))
        obtain ⟨hk2, H2, hf2⟩ := finIo_ok hI hio (by omega) (Nat.le_refl _)
        have hlk : ∀ c k, (c, k) ∈ rho ++ rho' → (rho ++ rho').lookup c = some k := fun c k hh => rhoOk_spec hok hh
        have hkk : ∀ c k, (c, k) ∈ rho ++ rho' → (k = outC c ∧ Good U G c) ∨ (3 ≤ k ∧ 3 ≤ c) := by
          intro c k hh
          rcases List.mem_append.1 hh with hh | hh
          · rcases hk1 c k hh with h | ⟨q1, q2, q3⟩
            · exact .inl h
            · exact .inr ⟨by omega, q3⟩
          · rcases hk2 c k hh with h | ⟨q1, q2, q3⟩ | ⟨q1, q2⟩
            · exact .inl h
            · exact .inr ⟨by omega, q3⟩
            · have := boxToks_in c q2
              exact .inr ⟨by omega, this.1⟩
        let G1 : Gh := ⟨fun b => match (rho ++ rho').lookup (G.col b) with | some k => k | none => if G.col b ≤ 2 then G.col b else 0,
          fun u => if u < entNt con.ps 3 then G.hdr u else if u < resNt con.rs (entNt con.ps 3) then H1 u else H2 u, fun _ => false⟩
        have hcol : ∀ c k, (c, k) ∈ rho ++ rho' → ∀ b, G.col b = c → G1.col b = k := by
          intro c k hh b hb
          show (match (rho ++ rho').lookup (G.col b) with | some k => k | none => if G.col b ≤ 2 then G.col b else 0) = k
          rw [hb, hlk c k hh]
        have hcs : ∀ b, (G.col b ≤ 2 ∧ G1.col b = G.col b) ∨ (3 ≤ G.col b ∧ (G1.col b = 2 ∨ G1.col b = 0 ∨ 3 ≤ G1.col b)) := by
          intro b
          have hb0 : G1.col b = (match (rho ++ rho').lookup (G.col b) with | some k => k | none => if G.col b ≤ 2 then G.col b else 0) := rfl
          cases hq : (rho ++ rho').lookup (G.col b) with
          | none =>
            rw [hq] at hb0
            simp only at hb0
            by_cases h2 : G.col b ≤ 2
            · left; rw [if_pos h2] at hb0; exact ⟨h2, hb0⟩
            · right; rw [if_neg h2] at hb0; exact ⟨by omega, by omega⟩
          | some k =>
            rw [hq] at hb0
            simp only at hb0
            rcases hkk _ _ (lookup_mem hq) with ⟨h1, h2⟩ | ⟨h1, h2⟩
            · rw [h1] at hb0
              have h0 := h2.1
              unfold outC at hb0
              by_cases e : G.col b = 1
              · left; rw [if_pos e] at hb0; omega
              · rw [if_neg e] at hb0
                by_cases e2 : G.col b = 2
                · left; omega
                · right; omega
            · right; omega
        refine ⟨resVal vs, G1, vs, 0, run_results hrun, ⟨rfl, hvl, ?_, ?_, fun b hb hc => ?_, fun b hb => ?_, hI.size, hI.os, hI.tape, hI.output, fun b hb => ?_, fun b hb => ?_⟩⟩
        · refine hf1 _ ys G1 (fun c k hh => hcol c k (List.mem_append_left _ hh)) (fun u h1 h2 => ?_)
          show (if u < entNt con.ps 3 then G.hdr u else if u < resNt con.rs (entNt con.ps 3) then H1 u else H2 u) = H1 u
          rw [if_neg (by omega), if_pos h2]
        · intro t i v hin
          rw [scatter_rest, scatter_nt] at hin
          have := hf2 G1 (fun c k hh => hcol c k (List.mem_append_right _ hh)) (fun u h1 h2 => by
            show (if u < entNt con.ps 3 then G.hdr u else if u < resNt con.rs (entNt con.ps 3) then H1 u else H2 u) = H2 u
            rw [if_neg (by omega), if_neg (by omega)]) (fun u hu => by
            have := boxToks_in u hu
            show (if u < entNt con.ps 3 then G.hdr u else if u < resNt con.rs (entNt con.ps 3) then H1 u else H2 u) = G.hdr u
            rw [if_pos this.2]) t i v hin
          rw [hT i this.2] at this
          exact this.1
        · have hf := hI.frame b hb hc
          refine ⟨?_, hf.2⟩
          rcases hcs b with h | h <;> omega
        · refine hI.one b ?_
          rcases hcs b with h | h <;> omega
        · refine hI.lt b ?_
          rcases hcs b with h | h <;> omega
        · refine hI.fresh b ?_
          rcases hcs b with h | h <;> omega
      · cases h
    · cases h
  · cases h

theorem getD_app_no (l : List SV) (n i : Nat) : (l ++ List.replicate n SV.no).getD i SV.no = l.getD i SV.no := by
  rw [List.getD_eq_getElem?_getD, List.getD_eq_getElem?_getD, List.getElem?_append]
  split
  · rfl
  · rename_i h
    rw [List.getElem?_replicate, List.getElem?_eq_none (by omega)]
    split <;> rfl

/-- At the door. -/
theorem begin_ok {ps : List PK} {x : TupD (ps.map PK.ty)} {args : List Value} (h : Lot w G (env0 ps x 3).1 args (entNt ps 3)) (n : Nat) :
    Inv w G.col (fun u => u < entNt ps 3) ⟨(env0 ps x 3).1 ++ List.replicate (n - (env0 ps x 3).1.length) .no, (env0 ps x 3).2⟩ { tmps := args.toArray ++ Array.replicate (n - args.toArray.size) undef, defers := [] } w G := by
  have hlen := h.len
  have hta : ∀ i, i < args.length → (args.toArray ++ Array.replicate (n - args.toArray.size) undef).getD i undef = args.getD i undef := by
    intro i hi
    rw [Array.getD_eq_getD_getElem?, List.getD_eq_getElem?_getD, Array.getElem?_append_left (by simpa using hi)]
    simp
  have h30 := entNt_ge ps 3
  refine ⟨by simp [hlen], fun s => ?_, fun s => ?_, fun s => ?_, fun s => ?_, fun s s' t v v' h1 h2 => ?_, fun b hb => (h.colU b hb).1, fun b hb => (h.colU b hb).2, h.fresh, fun b _ _ => ⟨rfl, rfl⟩, fun b hb => ⟨(h.colU b (by omega)).2, hb⟩, Nat.le_refl _, rfl, rfl, rfl, rfl, ⟨by show 2 < entNt ps 3; omega, h.two⟩⟩
  · simp only [getD_app_no]
    by_cases hs : s < args.length
    · have := h.slots s
      rw [← hta s hs] at this
      exact this
    · rw [List.getD_eq_getElem?_getD, List.getElem?_eq_none (by omega)]; trivial
  · simp only [getD_app_no]; exact (h.ment s).1
  · simp only [getD_app_no]; exact (h.ment s).2.1
  · simp only [getD_app_no]; exact (h.ment s).2.2
  · simp only [getD_app_no] at h1 h2
    exact h.uni s s' t v v' h1 h2

theorem env0_noG {ps : List PK} : ∀ {x : TupD (ps.map PK.ty)} {tk : Nat}, NoG (env0 ps x tk).1 := by
  induction ps with
  | nil => intro x tk s j w act v h; simp [env0] at h
  | cons p ps ih =>
    intro x tk s j w act v h
    cases p with
    | val τ q =>
      simp only [env0] at h
      cases s with
      | zero => simp at h
      | succ s => simp only [List.getD_cons_succ] at h; exact ih _ _ _ _ _ h
    | io τ q =>
      simp only [env0] at h
      cases s with
      | zero => simp at h
      | succ s => simp only [List.getD_cons_succ] at h; exact ih _ _ _ _ _ h

/-- A function that the evaluator tells meets its contract. -/
theorem fn_ok (hC : CxOk P C) {f : FuncId} {fn : Func} {con : Con} (hf : P.funcs[f]? = some fn) (hname : (fn.name == "runtime.NumGoroutine") = false) (hn : con.ps.length ≤ fn.ntmps)
    (hF : ∀ x y, con.F x = some y → evFn C con.ps con.rs fn x = some y) : Meets P f con := by
  intro w G0 args x y hy hlot
  have hev := hF x y hy
  unfold evFn at hev
  split at hev
  · cases hev
  · rename_i c hb
    have hrun : (callFunc f args.toArray).run P w = .ok (.enter f args.toArray) w := by
      have hne : fn.name ≠ "runtime.NumGoroutine" := by simpa using hname
      unfold callFunc
      simp [hf, hne, hb]
    unfold Upon
    rw [hrun]
    simp only
    refine calls_of_wp hf hb ?_
    have hal : args.length = con.ps.length := by rw [hlot.len, env0_len]
    have hE := begin_ok hlot fn.ntmps
    have h30 := entNt_ge con.ps 3
    have hkey : KOk { C with n := fn.ntmps, io := ioIdx con.ps 0 } w G0.col (fun i => args.getD i undef) y (fin C.tt con.ps con.rs fn.results.toList (env0 con.ps x 3).2) (fun a' w' =>
        a'.defers = [] ∧ ∃ v, (results fn a'.tmps).run P w' = .ok v w' ∧ ∃ v', Ending.returned v = Ending.returned v' ∧ ∃ G' vs nt, Post con w G0 args y v' w' G' vs nt) := by
      intro E' a' w' G' g1 g2 g3 g4 gT g5
      rw [env0_nt] at g5
      obtain ⟨mv, G2, vs, nt, k1, k2⟩ := fin_ok hC.toCxTy (args := args) g1 g5 gT
      exact ⟨g1.defers, mv, k1, mv, rfl, G2, vs, nt, k2⟩
    have hC2 : CxOk P { C with n := fn.ntmps, io := ioIdx con.ps 0 } := ⟨⟨hC.tt, hC.eq, hC.fs, hC.u8⟩, hC.ct, hC.mixed⟩
    refine ev_ok (T := fun i => args.getD i undef) hC2 c (w0 := w) (c0 := G0.col) (G := G0) (r := y) (by rw [env0_nt]; simpa [env0_nt] using hE) (fun s j w1 act v h => ?_) ?_ ?_ (fun i hi => ?_) hev hkey (fun id k hk => by simp [List.lookup] at hk) hkey
    · rw [getD_app_no] at h; exact env0_noG _ _ _ _ _ h
    · simp only [List.length_append, List.length_replicate, env0_len]; omega
    · rw [env0_nt]; exact h30
    · have := ioIdx_in i hi
      rw [Array.getD_eq_getD_getElem?, Array.getElem?_append_left (by simp; omega), List.getD_eq_getElem?_getD]
      simp

end
end Vg

/- VG, part 46: what is read of an argument is told by its cells. -/
namespace Vg
open Go

/-- Numbers that fit their kinds, lengths that memory may have. -/
def Fits : (τ : Ty) → τ.den → Prop
  | .int k, n => (Lit.int k n).wf = true
  | .bool, _ => True
  | .str, s => s.size ≤ maxLen
  | .sl e, l => l.length ≤ maxLen ∧ ∀ x ∈ l, Fits e x
  | .pair a b, p => Fits a p.1 ∧ Fits b p.2

def fieldsOk (P : Program) (chk : Ty → TypeId → Bool) : Ty → List Field → Nat → Bool
  | τ, [f], off => f.offset == off && P.cellsOf f.type == τ.sz && chk τ f.type
  | .pair a b, f :: g :: l, off => f.offset == off && P.cellsOf f.type == a.sz && chk a f.type && fieldsOk P chk b (g :: l) (off + a.sz)
  | _, _, _ => false

/-- A type of the program is, all through, such a type. -/
def deepN (P : Program) : Nat → Ty → TypeId → Bool
  | 0, _, _ => false
  | n + 1, τ, t =>
    match P.underlying t with
    | some (.int k) => τ == .int k
    | some .bool => τ == .bool
    | some .string => τ == .str
    | some (.slice e) => (match τ with | .sl τe => P.cellsOf e == τe.sz && deepN P n τe e | _ => false)
    | some (.struct fs) => τ.isPair && P.cellsOf t == τ.sz && fieldsOk P (deepN P n) τ fs.toList 0
    | _ => false

section
variable {H : Type} {enc : TypeId × Value → H} {P : Program} {w : World} {held : Bool}

theorem cells?_some {a : Addr} {n : Nat} {cs : List Value} (h : w.cells? 0 a n = some cs) : cs.length = n ∧ ∀ i, i < n → w.cell? (a.add i) = cs[i]? := by
  unfold World.cells? at h
  rw [if_pos (Nat.zero_le _)] at h
  refine ⟨by simpa using mapM_some_length h, fun i hi => ?_⟩
  exact mapM_some_get h i i (by simp [hi])

theorem cell?_at {a : Addr} {v : Value} (h : w.cell? a = some v) : ∃ c el fz, w.heap[a.block]? = some (.cells c el fz) ∧ a.spot = none ∧ c[a.off]? = some v := by
  unfold World.cell? at h
  split at h
  · rename_i c el fz hb
    split at h
    · cases h
    · rename_i hs
      exact ⟨c, el, fz, hb, by simpa using hs, h⟩
  · cases h

/-- Cells that lie in one block. -/
theorem cells?_row {b off : Nat} {c : Array Value} {el : TypeId} {fz : Nat × Nat} (hb : w.heap[b]? = some (.cells c el fz)) {n : Nat} {cs : List Value} (h : w.cells? 0 ⟨b, off, none⟩ n = some cs) : cs = (c.toList.drop off).take n ∧ (0 < n → off + n ≤ c.size) := by
  obtain ⟨hl, hc⟩ := cells?_some h
  have hget : ∀ i, i < n → c[off + i]? = cs[i]? := by
    intro i hi
    have := hc i hi
    unfold World.cell? at this
    have hadd : (Addr.add ⟨b, off, none⟩ i) = ⟨b, off + i, none⟩ := by
      unfold Addr.add
      split
      · rename_i h; subst h; rfl
      · rfl
    rw [hadd] at this
    simp only [hb, Option.isSome_none, Bool.false_eq_true, if_false] at this
    exact this
  refine ⟨List.ext_getElem? (fun i => ?_), fun hn => ?_⟩
  · rw [List.getElem?_take]
    split
    · rename_i hi
      rw [List.getElem?_drop, ← hget i hi, Array.getElem?_toList]
    · rename_i hi
      exact List.getElem?_eq_none (by omega)
  · have := hget (n - 1) (by omega)
    rw [List.getElem?_eq_getElem (by omega)] at this
    have := (Array.getElem?_eq_some_iff.1 this).1
    omega

theorem fields_rep {chk : Ty → TypeId → Bool} {cs : List Value}
    (hchk : ∀ {τ : Ty} {t : TypeId} {fuel : Nat} {c : List Value} {x : DataW H × List MemPlace}, chk τ t = true → DataW.trod enc P w 0 (fun _ => true) held fuel t c = some x → ∃ y B, Rep w τ y c B ∧ Fits τ y) :
    ∀ {fs : List Field} {τ : Ty} {off : Nat}, fieldsOk P chk τ fs off = true → cs.length = off + τ.sz →
    (∀ f ∈ fs, ∃ fuel x, DataW.trod enc P w 0 (fun _ => true) held fuel f.type ((cs.drop f.offset).take (P.cellsOf f.type)) = some x) → ∃ y B, Rep w τ y (cs.drop off) B ∧ Fits τ y
  | [], τ, off, h, _, _ => by cases τ <;> simp [fieldsOk] at h
  | [f], τ, off, h, hl, ht => by
    have h : (f.offset == off && P.cellsOf f.type == τ.sz && chk τ f.type) = true := by
      cases τ <;> exact h
    simp only [Bool.and_eq_true, beq_iff_eq] at h
    obtain ⟨⟨h1, h2⟩, h3⟩ := h
    obtain ⟨fuel, x, hx⟩ := ht f (by simp)
    rw [h1, h2, List.take_of_length_le (by simp; omega)] at hx
    exact hchk h3 hx
  | f :: g :: l, τ, off, h, hl, ht => by
    cases τ with
    | pair a b =>
      simp only [fieldsOk, Bool.and_eq_true, beq_iff_eq] at h
      obtain ⟨⟨⟨h1, h2⟩, h3⟩, h4⟩ := h
      simp only [Ty.sz] at hl
      obtain ⟨fuel, x, hx⟩ := ht f (by simp)
      rw [h1, h2] at hx
      obtain ⟨y1, B1, r1, f1⟩ := hchk h3 hx
      obtain ⟨y2, B2, r2, f2⟩ := fields_rep hchk h4 (by omega) (fun q hq => ht q (by simp only [List.mem_cons] at hq ⊢; exact .inr hq))
      refine ⟨(y1, y2), B1 ++ B2, ⟨_, _, B1, B2, ?_, rfl, r1, r2⟩, f1, f2⟩
      rw [← List.drop_drop, List.take_append_drop]
    | _ => simp [fieldsOk] at h

theorem elems_rep {τe : Ty} {e : TypeId} {n : Nat} (hsz : P.cellsOf e = τe.sz) {b : Nat} {c : Array Value} {el : TypeId} {fz : Nat × Nat} (hb : w.heap[b]? = some (.cells c el fz))
    (hchk : ∀ {c : List Value} {x : DataW H × List MemPlace}, DataW.trod enc P w 0 (fun _ => true) held n e c = some x → ∃ y B, Rep w τe y c B ∧ Fits τe y) :
    ∀ (len : Nat) {off : Nat} {elems : List (DataW H × List MemPlace)}, elems.length = len →
    (∀ i, i < len → (w.cells? 0 (Addr.add ⟨b, off, none⟩ (i * P.cellsOf e)) (P.cellsOf e)).bind (DataW.trod enc P w 0 (fun _ => true) held n e) = elems[i]?) →
    ∃ (l : List τe.den) (Bs : List Nat), l.length = len ∧ RepL (Rep w τe) l ((c.toList.drop off).take (len * τe.sz)) Bs ∧ ∀ x ∈ l, Fits τe x
  | 0, off, elems, _, _ => ⟨[], [], rfl, by simp [RepL], by simp⟩
  | len + 1, off, elems, hlen, hel => by
    have h0 := hel 0 (by omega)
    rw [List.getElem?_eq_getElem (by omega), Option.bind_eq_some_iff] at h0
    obtain ⟨cs, hcs, hx⟩ := h0
    simp only [Nat.zero_mul, Addr.add, if_true] at hcs
    obtain ⟨e1, _⟩ := cells?_row hb hcs
    obtain ⟨y, B, hr, hf⟩ := hchk hx
    have hadd : ∀ i, Addr.add ⟨b, off, none⟩ ((i + 1) * P.cellsOf e) = Addr.add ⟨b, off + τe.sz, none⟩ (i * P.cellsOf e) := by
      intro i
      have := τe.sz_pos
      unfold Addr.add
      rw [hsz]
      rw [if_neg (by simp only [Nat.add_mul]; omega)]
      split
      · rename_i h; simp only [Nat.add_mul, h]; simp
      · simp only [Nat.add_mul, Addr.mk.injEq, and_true, true_and]; omega
    obtain ⟨l, Bs, h1, h2, h3⟩ := elems_rep hsz hb hchk len (off := off + τe.sz) (elems := elems.tail) (by simp [hlen]) (fun i hi => by
      rw [← hadd, hel (i + 1) (by omega)]
      cases elems with
      | nil => simp at hlen
      | cons z zs => rfl)
    refine ⟨y :: l, B ++ Bs, by simp [h1], ⟨cs, _, B, Bs, ?_, rfl, hr, h2⟩, by simpa using ⟨hf, h3⟩⟩
    rw [e1, hsz, Nat.add_mul, Nat.one_mul, Nat.add_comm (len * τe.sz), List.take_add, List.drop_drop]

theorem rep_of_trod : ∀ (n : Nat) {τ : Ty} {t : TypeId} {fuel : Nat} {cs : List Value} {x : DataW H × List MemPlace}, deepN P n τ t = true → DataW.trod enc P w 0 (fun _ => true) held fuel t cs = some x → ∃ y B, Rep w τ y cs B ∧ Fits τ y := by
  intro n
  induction n with
  | zero => intro τ t fuel cs x h; simp [deepN] at h
  | succ n ih =>
    intro τ t fuel cs x h ht
    simp only [deepN] at h
    split at h
    · rename_i k hu
      simp only [beq_iff_eq] at h
      subst h
      obtain ⟨m, rfl, _, hw⟩ := DataW.trod_int hu ht
      exact ⟨m, [], ⟨rfl, rfl⟩, hw⟩
    · rename_i hu
      simp only [beq_iff_eq] at h
      subst h
      obtain ⟨b, rfl, _⟩ := DataW.trod_bool hu ht
      exact ⟨b, [], ⟨rfl, rfl⟩, trivial⟩
    · rename_i hu
      simp only [beq_iff_eq] at h
      subst h
      obtain ⟨s, rfl, _, hs⟩ := DataW.trod_string hu ht
      exact ⟨s, [], ⟨rfl, rfl⟩, hs⟩
    · rename_i e hu
      split at h
      · rename_i τe
        simp only [Bool.and_eq_true, beq_iff_eq] at h
        obtain ⟨hsz, hd⟩ := h
        rcases DataW.trod_slice hu ht with ⟨rfl, _⟩ | ⟨a, len, cap, elems, rest, m, _, rfl, _, _, hlc, hcm, hlen, hel, hsp, _⟩
        · exact ⟨[], [], ⟨_, rfl, .inl ⟨⟨_, rfl⟩, rfl, rfl⟩⟩, by simp [Fits]⟩
        · by_cases hcap : cap = 0
          · subst hcap
            have : len = 0 := by omega
            subst this
            exact ⟨[], [], ⟨_, rfl, .inl ⟨⟨_, rfl⟩, rfl, rfl⟩⟩, by simp [Fits]⟩
          · obtain ⟨hrl, hrest⟩ := hsp rfl
            have hall : ∀ i, i < cap → ∃ cs, w.cells? 0 (a.add (i * P.cellsOf e)) (P.cellsOf e) = some cs := by
              intro i hi
              by_cases hil : i < len
              · have := hel i hil
                rw [List.getElem?_eq_getElem (by omega), Option.bind_eq_some_iff] at this
                obtain ⟨cs, h1, _⟩ := this
                exact ⟨cs, h1⟩
              · have := hrest (i - len) (by omega)
                rw [List.getElem?_eq_getElem (by omega), Option.bind_eq_some_iff] at this
                obtain ⟨cs, h1, _⟩ := this
                rw [show len + (i - len) = i by omega] at h1
                exact ⟨cs, h1⟩
            have hpos := τe.sz_pos
            obtain ⟨cs0, h0⟩ := hall 0 (by omega)
            obtain ⟨hl0, hc0⟩ := cells?_some h0
            have hc00 := hc0 0 (by omega)
            rw [List.getElem?_eq_getElem (by omega)] at hc00
            have haa : (a.add (0 * P.cellsOf e)).add 0 = a := by simp [Addr.add]
            rw [haa] at hc00
            obtain ⟨c, el, fz, hb, hspot, _⟩ := cell?_at hc00
            obtain ⟨b, off, spot⟩ := a
            simp only at hb hspot
            subst hspot
            obtain ⟨l, Bs, h1, h2, h3⟩ := elems_rep (held := held) (enc := enc) hsz hb (fun hx => ih hd hx) len hlen hel
            obtain ⟨csl, hcl⟩ := hall (cap - 1) (by omega)
            have hadd : Addr.add ⟨b, off, none⟩ ((cap - 1) * P.cellsOf e) = ⟨b, off + (cap - 1) * P.cellsOf e, none⟩ := by
              unfold Addr.add
              split
              · rename_i h; rw [h]; rfl
              · rfl
            rw [hadd] at hcl
            have hsize := (cells?_row hb hcl).2 (by omega)
            rw [hsz] at hsize
            have hmul : (cap - 1) * τe.sz + τe.sz = cap * τe.sz := by
              have : cap = cap - 1 + 1 := by omega
              conv => rhs; rw [this, Nat.add_mul, Nat.one_mul]
            refine ⟨l, b :: Bs, ⟨_, rfl, .inr ⟨b, off, cap, c, el, fz, Bs, by rw [h1], by omega, hb, by omega, rfl, by rw [h1]; exact h2⟩⟩, by omega, h3⟩
      · cases h
    · rename_i fs hu
      simp only [Bool.and_eq_true, beq_iff_eq] at h
      obtain ⟨⟨hp, hsz⟩, hfo⟩ := h
      obtain ⟨xs, m, _, _, hl, hxl, hxs⟩ := DataW.trod_struct hu ht
      have := fields_rep (held := held) (enc := enc) (cs := cs) (fun h hx => ih h hx) hfo (by rw [hl, hsz]; omega) (fun f hf => by
        obtain ⟨i, hi, rfl⟩ := List.mem_iff_getElem.1 hf
        have hi' : i < fs.size := by simpa using hi
        have := hxs i fs[i] (by simp [hi'])
        rw [List.getElem?_eq_getElem (by omega)] at this
        exact ⟨m, _, by simpa using this⟩)
      simpa using this
    · cases h

end
end Vg

/- VG, part 47: a law's row, from what its function's contract says. -/
namespace Vg
open Go Go.ChangeShapes Go.WideShapes Go.ChangeAt Go.RowKit

/-- The pattern of a type: all memory is shared. -/
def shrPt : Ty → Pt
  | .sl _ => .shr
  | .pair a b => .pair (shrPt a) (shrPt b)
  | _ => .leaf

theorem ptShape_shr : ∀ (τ : Ty) (tk : Nat) (hs : List Nat), ptShape (shrPt τ) tk hs = (shOf τ (.sha hs), tk)
  | .int _, _, _ | .bool, _, _ | .str, _, _ | .sl _, _, _ => rfl
  | .pair a b, tk, hs => by simp only [shrPt, ptShape, ptShape_shr a, ptShape_shr b, shOf]

/-- The parameters of a law. -/
abbrev psOf (τs : List Ty) : List PK := τs.map fun τ => .val τ (shrPt τ)

def FitsAll : (τs : List Ty) → TupD ((psOf τs).map PK.ty) → Prop
  | [], _ => True
  | τ :: τs, x => Fits τ x.1 ∧ FitsAll τs x.2

def deepAll (P : Program) (n : Nat) : List Ty → List TypeId → Bool
  | [], [] => true
  | τ :: τs, t :: ts => deepN P n τ t && deepAll P n τs ts
  | _, _ => false

section
variable {H : Type} {enc : TypeId × Value → H} {P : Program} {w : World} {G : Gh}

theorem ok_value {n : Nat} {τ : Ty} {t : TypeId} {v : Value} {r : Reach} {b0 : Nat} (h : deepN P n τ t = true) (hval : Value.okWide P w r b0 t v) : v = mkv τ v.cells.toList := by
  cases n with
  | zero => simp [deepN] at h
  | succ n =>
    simp only [deepN] at h
    split at h
    · rename_i k hu
      simp only [beq_iff_eq] at h
      subst h
      obtain ⟨m, rfl⟩ := okWide_int hu hval
      rfl
    · rename_i hu
      simp only [beq_iff_eq] at h
      subst h
      obtain ⟨b, rfl⟩ := okWide_bool hu hval
      rfl
    · rename_i hu
      simp only [beq_iff_eq] at h
      subst h
      obtain ⟨s, rfl⟩ := okWide_string hu hval
      rfl
    · rename_i e hu
      split at h
      · obtain ⟨a, len, cap, rfl⟩ := okWide_slice hu hval
        rfl
      · cases h
    · rename_i fs hu
      simp only [Bool.and_eq_true] at h
      obtain ⟨cs, rfl, _⟩ := okWide_struct hu hval
      cases τ with
      | pair a b => simp [mkv, Value.cells]
      | _ => simp [Ty.isPair] at h
    · cases h

theorem args_rep (hG : ∀ b, b < w.heap.size → G.col b = 1) {n : Nat} {r : Reach} {b0 : Nat} : ∀ {τs : List Ty} {ts : List TypeId} {args : List Value} {ds : List (DataW H)} {p : List MemPlace},
    deepAll P n τs ts = true → DataW.TrodAll enc P w 0 (fun _ => true) true ts args ds p → (∀ (j : Nat) t v, ts[j]? = some t → args[j]? = some v → Value.okWide P w r b0 t v) →
    ∃ x : TupD ((psOf τs).map PK.ty), FitsAll τs x ∧ args.length = τs.length ∧ ds.length = τs.length ∧ ∀ tk i, SOk w G ((env0 (psOf τs) x tk).1.getD i .no) (args.getD i undef)
  | [], [], args, ds, p, _, ht, _ => by
    obtain ⟨rfl, rfl, rfl⟩ := trodAll_nil ht
    exact ⟨(), trivial, rfl, rfl, fun tk i => trivial⟩
  | τ :: τs, t :: ts, args, ds, p, hd, ht, hv => by
    simp only [deepAll, Bool.and_eq_true] at hd
    obtain ⟨v, vs, d, ds', p', q, rfl, rfl, rfl, h1, h2⟩ := trodAll_cons ht
    obtain ⟨x, hx, hl, hl2, hs⟩ := args_rep hG hd.2 h2 (fun j t v ht hv' => hv (j + 1) t v (by simpa using ht) (by simpa using hv'))
    obtain ⟨fuel, hf⟩ := h1
    obtain ⟨y, B, hr, hfit⟩ := rep_of_trod n hd.1 hf
    refine ⟨(y, x), ⟨hfit, hx⟩, by simp [hl], by simp [hl2], fun tk i => ?_⟩
    have hok := ok_value hd.1 (hv 0 t v rfl rfl)
    cases i with
    | zero =>
      show SOk w G (.d ⟨τ, y, (ptShape (shrPt τ) tk [1]).1⟩) v
      rw [ptShape_shr]
      exact ⟨_, hok, VOk.of_rep hr (fun b hb => by simp [hG b (hr.bounds b hb)]) (by simp)⟩
    | succ i =>
      show SOk w G ((env0 (psOf τs) x (ptShape (shrPt τ) tk [1]).2).1.getD i .no) (vs.getD i undef)
      exact hs _ i
  | [], _ :: _, _, _, _, h, _, _ | _ :: _, [], _, _, _, h, _, _ => by simp [deepAll] at h

end
end Vg

/- VG, part 48: a law's row, from what its function's contract says: the contract. -/
namespace Vg
open Go Go.ChangeShapes Go.WideShapes Go.ChangeAt Go.RowKit

theorem psOf_fits : ∀ (τs : List Ty) (tk : Nat), entNt (psOf τs) tk = tk
  | [], _ => rfl
  | τ :: τs, tk => by
    show entNt (psOf τs) (ptNext (shrPt τ) tk) = tk
    have : ptNext (shrPt τ) tk = tk := by
      rw [← ptNext_eq (shrPt τ) tk [1], ptShape_shr]
    rw [this, psOf_fits τs]

theorem psOf_boxToks : ∀ (τs : List Ty) (tk : Nat), boxToks (psOf τs) tk = []
  | [], _ => rfl
  | _ :: τs, _ => psOf_boxToks τs _

section
variable {H : Type} {enc : TypeId × Value → H} {P : Program}

/-- What is there before it is there behind, where no old block has turned and the results read so. -/
theorem post_same {f : Func} {s : ChangeSpec} {W W' : World} {args : Array Value} {v : Value} {ds gs : List (DataW H)} {before : List MemPlace}
    (hW : DataW.Whole enc P f.params.toList s.vars false W args.toList ds gs before)
    (hres : ∀ (b : Nat) (sp : Nat → Bool) (hd : Bool), DataW.TrodAll enc P W' b sp hd f.resultTypes.toList (v.resultList f.resultTypes.size) (s.fn H (ds ++ gs)).results [])
    (hargs : ∀ sp : Nat → Bool, (∀ p ∈ before, sp p.block = true) → DataW.TrodAll enc P W' 0 sp true f.params.toList args.toList (s.fn H (ds ++ gs)).args before)
    (hvars : s.vars = []) (hleft : (s.fn H (ds ++ gs)).vars = []) (hk : W.keptBut W' (· ∈ before)) (hh : ∀ b, b < W.heap.size → W'.heap[b]? = W.heap[b]?)
    (hok : ∀ (j : Nat) (t : TypeId) (r : Value), f.resultTypes[j]? = some t → (v.resultList f.resultTypes.size)[j]? = some r → Value.okWide P W' .any 0 t r) :
    s.post enc P f false true false false W args v W' := by
  have hold : ∀ p ∈ before, (fun b => decide (b < W.heap.size)) p.block = true := fun p hp => by simpa using hW.lt p hp
  have hv : ∀ sp, DataW.TrodVars enc P W' sp s.vars (s.fn H (ds ++ gs)).vars [] := fun sp => by rw [hvars, hleft]; exact rfl
  refine ⟨ds, gs, before, [], before, [], hW, hres _ _ _, hargs _ hold, hv _, World.keptBut_mono (fun p hp => ⟨hp, ?_⟩) hk, fun _ => ?_⟩
  · exact Or.inr (by simpa using hp)
  · have hlt := hW.lt
    obtain ⟨_, _, _, _, _, hz, _⟩ := hW
    refine ⟨hok, _, _, ([] ++ before) ++ [], ⟨[] ++ before, [], trodAll_append (hargs _ (fun _ _ => rfl)) (hres _ _ _), hv _, rfl, ?_, ?_⟩, ?_⟩
    · intro b off hp
      have hp' : MemPlace.cell b off ∈ before := by simpa using hp
      have := hz b off hp'
      have hb := hlt _ hp'
      unfold World.frozen? at this ⊢
      rw [hh b hb]
      exact this
    · intro ha; cases ha
    · intro p hp _
      simpa using hp

theorem trodAll_stays (hl : laidOutB P = true) {W W' : World} {sp : Nat → Bool} : ∀ {ts : List TypeId} {vs : List Value} {ds : List (DataW H)} {p : List MemPlace},
    (∀ t ∈ ts, P.readableRec t = true ∧ t < P.types.size) → DataW.TrodAll enc P W 0 (fun _ => true) true ts vs ds p → (∀ x ∈ p, W.sameAt W' x) → (∀ x ∈ p, sp x.block = true) → DataW.TrodAll enc P W' 0 sp true ts vs ds p
  | [], vs, ds, p, _, h, _, _ => by
    obtain ⟨rfl, rfl, rfl⟩ := trodAll_nil h
    exact rfl
  | t :: ts, vs, ds, p, hr, h, h1, h2 => by
    obtain ⟨v, vs, d, ds', p', q, rfl, rfl, rfl, k1, k2⟩ := trodAll_cons h
    exact trodAll_cons_mk (WideElems.Trod_stays hl (hr t (by simp)).1 (hr t (by simp)).2 k1 (fun x hx => h1 x (by simp [hx])) (fun x hx => h2 x (by simp [hx])))
      (trodAll_stays hl (fun t ht => hr t (by simp [ht])) k2 (fun x hx => h1 x (by simp [hx])) (fun x hx => h2 x (by simp [hx])))

theorem meets_calls {f : FuncId} {fn : Func} {con : Con} (hm : Meets P f con) (hf : P.funcs[f]? = some fn) (hname : (fn.name == "runtime.NumGoroutine") = false) (hb : fn.body.isSome = true)
    {W : World} {G0 : Gh} {args : List Value} {x : TupD (con.ps.map PK.ty)} {y : TupD (con.rs.map RK.ty ++ ioTys con.ps)} (hF : con.F x = some y) (hlot : Lot W G0 (env0 con.ps x 3).1 args (entNt con.ps 3)) :
    Calls P f args.toArray W (fun e w' => ∃ v, e = .returned v ∧ ∃ G' vs nt, Post con W G0 args y v w' G' vs nt) := by
  have := hm W G0 args x y hF hlot
  obtain ⟨c, hc⟩ := Option.isSome_iff_exists.1 hb
  have hrun : (callFunc f args.toArray).run P W = .ok (.enter f args.toArray) W := by
    have hne : fn.name ≠ "runtime.NumGoroutine" := by simpa using hname
    unfold callFunc
    simp [hf, hne, hc]
  unfold Upon at this
  rw [hrun] at this
  exact this

/-- What a law's row asks of its function. -/
theorem law_contract {f : FuncId} {fn : Func} {τs : List Ty} {F : TupD ((psOf τs).map PK.ty) → Option (TupD ([RK.val .bool .leaf].map RK.ty ++ ioTys (psOf τs)))} {spec : ChangeSpec} {tb : TypeId} {n : Nat}
    (hm : Meets P f ⟨psOf τs, [.val .bool .leaf], F⟩) (hf : P.funcs[f]? = some fn) (hname : (fn.name == "runtime.NumGoroutine") = false) (hb : fn.body.isSome = true)
    (hd : deepAll P n τs fn.params.toList = true) (hres : fn.resultTypes = #[tb]) (hub : P.underlying tb = some .bool) (hl : laidOutB P = true)
    (hr : fn.params.toList.all (fun t => P.readableRec t && decide (t < P.types.size)) = true) (hvars : spec.vars = [])
    (hspec : ∀ ds : List (DataW H), ds.length = τs.length → spec.fn H ds = { results := [.lit (.bool true)], args := ds })
    (hF : ∀ x, FitsAll τs x → ∃ y, F x = some y ∧ y.1 = true)
    (W : World) (base : Nat) (args : Array Value) (ds gs : List (DataW H)) (before : List MemPlace)
    (hval : ∀ (j : Nat) t v, fn.params[j]? = some t → args[j]? = some v → Value.okWide P W .any base t v)
    (hW : DataW.Whole enc P fn.params.toList spec.vars false W args.toList ds gs before) :
    Calls P f args W fun e W' => ∃ v, e = .returned v ∧ spec.post enc P fn false true false false W args v W' := by
  have hW' := hW
  have hlt := hW.lt
  obtain ⟨p, q, hA, hV, rfl, hfz, hnd⟩ := hW
  rw [hvars] at hV
  obtain ⟨rfl, rfl⟩ := trodVars_none hV
  have hA' : DataW.TrodAll enc P W 0 (fun _ => true) true fn.params.toList args.toList ds p := hA
  let G0 : Gh := ⟨fun b => if b < W.heap.size then 1 else 0, fun _ => undef, fun _ => false⟩
  obtain ⟨x, hfit, hlen, hdl, hs⟩ := args_rep (G := G0) (fun b hb => if_pos hb) hd hA' (fun j t v h1 h2 => hval j t v (by simpa using h1) (by simpa using h2))
  obtain ⟨y, hy, hy1⟩ := hF x hfit
  have hlot : Lot W G0 (env0 (psOf τs) x 3).1 args.toList (entNt (psOf τs) 3) := by
    rw [psOf_fits]
    refine ⟨by rw [env0_len, hlen]; simp, fun i => hs 3 i, fun i => ?_, fun i j t v v' h h' => env0_uni h h', fun b hb => ?_, fun b hb => ?_, rfl, fun b => ?_⟩
    · by_cases hi : i < (env0 (psOf τs) x 3).1.length
      · have hmem : (env0 (psOf τs) x 3).1.getD i .no ∈ (env0 (psOf τs) x 3).1 := by
          rw [List.getD_eq_getElem?_getD, List.getElem?_eq_getElem hi]; simp
        obtain ⟨h1, h2, h3⟩ := env0_static _ hmem
        rw [psOf_fits] at h1
        have hbt := psOf_boxToks τs 3
        refine ⟨fun c hc => ?_, fun c hc => ?_, by rw [h3]; simp⟩
        · rcases h1 c hc with rfl | ⟨q1, q2, q3⟩
          · exact ⟨by omega, by omega, rfl⟩
          · omega
        · have := h2 c hc
          rw [hbt] at this
          cases this
      · rw [List.getD_eq_getElem?_getD, List.getElem?_eq_none (by omega)]
        simp [Ment, SV.sc, SV.bt, SV.rt]
    · simp only [G0] at hb ⊢
      split at hb
      · rename_i h; exact ⟨by rw [if_pos h]; omega, h⟩
      · omega
    · simp only [G0] at hb
      split at hb <;> omega
    · simp only [G0]
      split <;> omega
  have hcall := meets_calls hm hf hname hb hy hlot
  simp only [Array.toArray_toList] at hcall
  refine hcall.mono fun e W' ⟨v, he, G', vs, nt, hp⟩ => ⟨v, he, ?_⟩
  have hlen1 := hp.len
  simp only [List.length_singleton] at hlen1
  obtain ⟨u, rfl⟩ := List.length_eq_one_iff.1 hlen1
  have hv : v = .bool true := by
    rw [hp.val]
    obtain ⟨cs, h1, h2⟩ := hp.res 0
    have h2' : cs = [.bool y.1] := h2
    rw [hy1] at h2'
    subst h2'
    exact h1
  subst hv
  have hh : ∀ b, b < W.heap.size → W'.heap[b]? = W.heap[b]? := fun b hb => (hp.frame b hb (by simp only [G0]; split <;> omega)).2
  have hsame : ∀ z ∈ p, W.sameAt W' z := by
    intro z hz
    have hzb := hlt z (by simpa using hz)
    cases z with
    | cell b off =>
      show W'.cell? ⟨b, off, none⟩ = W.cell? ⟨b, off, none⟩
      unfold World.cell?
      simp only
      rw [hh b hzb]
    | map b => exact hh b hzb
  have hkb : W.keptBut W' (· ∈ p ++ []) := by
    refine ⟨hp.os, hp.output, fun i hi => ?_⟩
    rw [hh i hi]
    cases W.heap[i]? with
    | none => rfl
    | some ob => cases ob <;> simp
  have hsp := hspec (ds ++ []) (by simpa using hdl)
  refine post_same hW' (fun b sp hd => ?_) (fun sp hsp' => ?_) hvars (by rw [hsp]) hkb hh (ok_one hres rfl (okWide_bool_mk hub _))
  · rw [hsp, hres]
    exact trodAll_cons_mk (shut_bool hub _) trodAll_mk0
  · rw [hsp, List.append_nil, List.append_nil]
    exact trodAll_stays hl (fun t ht => by
      have := List.all_eq_true.1 hr t ht
      simpa using this) hA' hsame (fun z hz => hsp' z (by simpa using hz))

end
end Vg

/- VG, part 45: closed checks of a table of types. -/
namespace Vg
open Go

def cellB : Value → Value → Bool
  | .int k n, .int k' n' => k == k' && n == n'
  | .bool b, .bool b' => b == b'
  | .string a, .string b => a.size == 0 && b.size == 0
  | .slice none l c, .slice none l' c' => l == l' && c == c'
  | _, _ => false

def cellsB : List Value → List Value → Bool
  | [], [] => true
  | a :: l, b :: m => cellB a b && cellsB l m
  | _, _ => false

def zeroB : Ty → Value → Bool
  | .pair a b, .agg cs => cellsB cs.toList (Ty.pair a b).zero
  | .pair _ _, _ => false
  | τ, v => cellsB [v] τ.zero

theorem size0 {a : ByteArray} (h : a.size = 0) : a = ByteArray.empty := by
  cases a with
  | mk d =>
    have : d.size = 0 := h
    have : d = #[] := Array.eq_empty_of_size_eq_zero this
    rw [this]; rfl

theorem cellB_ok {a b : Value} (h : cellB a b = true) : a = b := by
  unfold cellB at h
  split at h
  · simp only [Bool.and_eq_true, beq_iff_eq] at h; rw [h.1, h.2]
  · simp only [beq_iff_eq] at h; rw [h]
  · simp only [Bool.and_eq_true, beq_iff_eq] at h; rw [size0 h.1, size0 h.2]
  · simp only [Bool.and_eq_true, beq_iff_eq] at h; rw [h.1, h.2]
  · cases h

theorem cellsB_ok : ∀ {l m : List Value}, cellsB l m = true → l = m
  | [], [], _ => rfl
  | a :: l, b :: m, h => by
    simp only [cellsB, Bool.and_eq_true] at h
    rw [cellB_ok h.1, cellsB_ok h.2]
  | [], _ :: _, h | _ :: _, [], h => by simp [cellsB] at h

theorem zeroB_ok {τ : Ty} {v : Value} (h : zeroB τ v = true) : v = mkv τ τ.zero := by
  cases τ with
  | pair a b =>
    cases v with
    | agg cs =>
      have := cellsB_ok (show cellsB cs.toList (Ty.pair a b).zero = true from h)
      simp only [mkv, ← this, Array.toArray_toList]
    | _ => simp [zeroB] at h
  | int k => have := cellsB_ok (show cellsB [v] (Ty.int k).zero = true from h); simpa [mkv, Ty.zero] using this
  | bool => have := cellsB_ok (show cellsB [v] Ty.bool.zero = true from h); simpa [mkv, Ty.zero] using this
  | str => have := cellsB_ok (show cellsB [v] Ty.str.zero = true from h); simpa [mkv, Ty.zero] using this
  | sl e => have := cellsB_ok (show cellsB [v] (Ty.sl e).zero = true from h); simpa [mkv, Ty.zero] using this

def isAggD : TypeDesc → Bool
  | .struct _ | .array _ _ => true
  | _ => false

def factsB (P : Program) (t : TypeId) (τ : Ty) : Bool :=
  match P.info? t, P.underlying t with
  | some inf, some d => inf.size == τ.sz && (match inf.zero with | some v => zeroB τ v | none => false) && decide (inf.bytes ≤ 32768) && isAggD d == τ.isPair
  | _, _ => false

theorem factsB_ok {P : Program} {t : TypeId} {τ : Ty} (h : factsB P t τ = true) : TyFacts P t τ := by
  unfold factsB at h
  split at h
  · rename_i inf d h1 h2
    simp only [Bool.and_eq_true, beq_iff_eq, decide_eq_true_eq] at h
    obtain ⟨⟨⟨h3, h4⟩, h5⟩, h6⟩ := h
    refine ⟨inf, d, h1, h3, ?_, h5, h2, ?_⟩
    · split at h4
      · rename_i v hv
        rw [hv, zeroB_ok h4]
      · cases h4
    · rw [← h6]
      cases d <;> rfl
  · cases h

def fieldB (P : Program) (τ : Ty) (fs : List TypeId) (j : Nat) (f : Field) : Bool :=
  f.offset == τ.off (fpath fs.length j) && fs[j]? == some f.type && (match τ.sub (fpath fs.length j) with | some σ => factsB P f.type σ | none => false)

theorem fieldB_ok {P : Program} {τ : Ty} {fs : List TypeId} {j : Nat} {f : Field} (h : fieldB P τ fs j f = true) : FieldOk P τ fs j f := by
  simp only [fieldB, Bool.and_eq_true, beq_iff_eq] at h
  obtain ⟨⟨h1, h2⟩, h3⟩ := h
  refine ⟨h1, h2, ?_⟩
  split at h3
  · rename_i σ hs
    exact ⟨σ, hs, factsB_ok h3⟩
  · cases h3

/-- Fields of a struct whose values may be compared. -/
def eqFs (P : Program) (chk : Ty → TypeId → Bool) : Ty → List Field → Nat → Bool
  | τ, [f], off => f.offset == off && f.name != "_" && factsB P f.type τ && chk τ f.type
  | .pair a b, f :: g :: l, off => f.offset == off && f.name != "_" && factsB P f.type a && chk a f.type && eqFs P chk b (g :: l) (off + a.sz)
  | _, _, _ => false

def eqN (P : Program) : Nat → Ty → TypeId → Bool
  | 0, _, _ => false
  | n + 1, τ, t =>
    match P.underlying t with
    | some (.int k) => τ == .int k
    | some .bool => τ == .bool
    | some .string => τ == .str
    | some (.struct fs) => τ.isPair && !P.stoodInHeld t && eqFs P (eqN P n) τ fs.toList 0
    | _ => false

section
variable {P : Program}

theorem run_part_ {w : World} {t : TypeId} {τ : Ty} (h : TyFacts P t τ) {cs : Array Value} {off : Nat} (ho : off + τ.sz ≤ cs.size) :
    (part t cs off).run P w = .ok (mkv τ ((cs.toList.drop off).take τ.sz)) w := by
  unfold part
  rw [Sem.run_bind, run_isAgg h, Result.andThen_ok]
  cases hp : τ.isPair with
  | true =>
    cases τ with
    | pair a b =>
      simp [run_sizeOf' h, mkv, Array.toList_extract, List.extract]
      apply Array.ext'
      simp [Array.toList_extract, List.extract]
    | _ => simp [Ty.isPair] at hp
  | false =>
    have hsz : τ.sz = 1 := by cases τ <;> first | rfl | simp [Ty.isPair] at hp
    rw [hsz] at ho
    have hg : cs[off]? = some cs[off] := Array.getElem?_eq_getElem (by omega)
    simp only [Bool.false_eq_true, if_false, hg, Sem.run_pure]
    have : (cs.toList.drop off).take τ.sz = [cs[off]] := by
      rw [hsz, List.take_one, List.head?_drop]
      simp [hg]
    rw [this]
    cases τ <;> first | rfl | simp [Ty.isPair] at hp

theorem beq_bytes (a b : ByteArray) : (a == b) = (a.toList == b.toList) := by
  rw [Bool.eq_iff_iff]
  simp only [beq_iff_eq, ByteArray.toList_eq]
  constructor
  · intro h
    have : (a.data == b.data) = true := h
    simp only [beq_iff_eq] at this
    rw [this]
  · intro h
    have h' : a.data = b.data := by
      have := congrArg List.toArray h
      simpa using this
    show (a.data == b.data) = true
    simp [h']

theorem eq_fields {w : World} {chk : Ty → TypeId → Bool} {d : Nat}
    (hchk : ∀ {τ : Ty} {t : TypeId} {a b : τ.den} {c1 c2 : List Value}, chk τ t = true → Rep w τ a c1 [] → Rep w τ b c2 [] → (Op.equalIn d t (mkv τ c1) (mkv τ c2)).run P w = .ok (eqv τ a b) w) {xs ys : Array Value} :
    ∀ {fs : List Field} {τ : Ty} {off : Nat} {a b : τ.den}, eqFs P chk τ fs off = true → Rep w τ a (xs.toList.drop off) [] → Rep w τ b (ys.toList.drop off) [] →
    ∃ r, (Sem.run P (forIn fs ((none, ()) : Option Bool × Unit) fun f __s => if f.name = "_" then pure (ForInStep.yield (none, ())) else do
              let __do_lift ← part f.type xs f.offset
              let __do_lift_1 ← part f.type ys f.offset
              let __do_lift ← Op.equalIn d f.type __do_lift __do_lift_1
              if __do_lift = false then pure (ForInStep.done (some false, ())) else pure (ForInStep.yield (none, ()))) w) = .ok r w ∧ r = (if eqv τ a b = true then none else some false, ())
  | [], τ, _, _, _, h, _, _ => by cases τ <;> simp [eqFs] at h
  | [f], τ, off, a, b, h, ha, hb => by
    have h : (f.offset == off && f.name != "_" && factsB P f.type τ && chk τ f.type) = true := by cases τ <;> exact h
    simp only [Bool.and_eq_true, beq_iff_eq, bne_iff_ne, ne_eq] at h
    obtain ⟨⟨⟨h1, h2⟩, h3⟩, h4⟩ := h
    have hf := factsB_ok h3
    have l1 := ha.len
    have l2 := hb.len
    simp only [List.length_drop, Array.length_toList] at l1 l2
    have hpos := τ.sz_pos
    have e1 : (xs.toList.drop off).take τ.sz = xs.toList.drop off := List.take_of_length_le (by simp; omega)
    have e2 : (ys.toList.drop off).take τ.sz = ys.toList.drop off := List.take_of_length_le (by simp; omega)
    simp only [List.forIn_cons, h2, if_false, h1, Sem.run_bind, run_part_ hf (show off + τ.sz ≤ xs.size by omega), run_part_ hf (show off + τ.sz ≤ ys.size by omega), Result.andThen_ok, e1, e2, hchk h4 ha hb]
    cases eqv τ a b <;> simp
  | f :: g :: l, τ, off, a, b, h, ha, hb => by
    cases τ with
    | pair τ1 τ2 =>
      simp only [eqFs, Bool.and_eq_true, beq_iff_eq, bne_iff_ne, ne_eq] at h
      obtain ⟨⟨⟨⟨h1, h2⟩, h3⟩, h4⟩, h5⟩ := h
      have hf := factsB_ok h3
      obtain ⟨c1, c2, B1, B2, q1, q2, r1, r2⟩ := ha
      obtain ⟨d1, d2, D1, D2, p1, p2, s1, s2⟩ := hb
      obtain ⟨rfl, rfl⟩ := List.append_eq_nil_iff.1 q2.symm
      obtain ⟨rfl, rfl⟩ := List.append_eq_nil_iff.1 p2.symm
      have l1 := r1.len
      have l2 := s1.len
      have t1 : (xs.toList.drop off).take τ1.sz = c1 := by rw [q1, ← l1, List.take_left]
      have t2 : (ys.toList.drop off).take τ1.sz = d1 := by rw [p1, ← l2, List.take_left]
      have u1 : xs.toList.drop (off + τ1.sz) = c2 := by rw [← List.drop_drop, q1, ← l1, List.drop_left]
      have u2 : ys.toList.drop (off + τ1.sz) = d2 := by rw [← List.drop_drop, p1, ← l2, List.drop_left]
      have z1 : off + τ1.sz ≤ xs.size := by
        have := congrArg List.length q1
        simp only [List.length_drop, Array.length_toList, List.length_append, l1] at this
        have := τ1.sz_pos; omega
      have z2 : off + τ1.sz ≤ ys.size := by
        have := congrArg List.length p1
        simp only [List.length_drop, Array.length_toList, List.length_append, l2] at this
        have := τ1.sz_pos; omega
      obtain ⟨r, k1, k2⟩ := eq_fields hchk (xs := xs) (ys := ys) h5 (by rw [u1]; exact r2) (by rw [u2]; exact s2)
      rw [List.forIn_cons]
      simp only [h2, if_false, h1, Sem.run_bind, run_part_ hf z1, run_part_ hf z2, Result.andThen_ok, t1, t2, hchk h4 r1 s1, eqv]
      rcases Bool.eq_false_or_eq_true (eqv τ1 a.1 b.1) with he | he
      · simp only [he, Bool.true_eq_false, if_false, Sem.run_pure, Result.andThen_ok, Bool.true_and]
        exact ⟨r, k1, k2⟩
      · simp [he]
    | _ => simp [eqFs] at h

theorem eq_in {w : World} : ∀ (n d : Nat) {τ : Ty} {t : TypeId} {a b : τ.den} {c1 c2 : List Value}, n ≤ d → eqN P n τ t = true → Rep w τ a c1 [] → Rep w τ b c2 [] → (Op.equalIn d t (mkv τ c1) (mkv τ c2)).run P w = .ok (eqv τ a b) w := by
  intro n
  induction n with
  | zero => intro d τ t a b c1 c2 _ h; simp [eqN] at h
  | succ n ih =>
    intro d τ t a b c1 c2 hd h ha hb
    obtain ⟨d, rfl⟩ : ∃ e, d = e + 1 := ⟨d - 1, by omega⟩
    simp only [eqN] at h
    split at h
    · rename_i k hu
      simp only [beq_iff_eq] at h
      subst h
      obtain ⟨rfl, _⟩ := ha
      obtain ⟨rfl, _⟩ := hb
      simp [Op.equalIn, run_underlying hu, mkv, eqv]
    · rename_i hu
      simp only [beq_iff_eq] at h
      subst h
      obtain ⟨rfl, _⟩ := ha
      obtain ⟨rfl, _⟩ := hb
      simp [Op.equalIn, run_underlying hu, mkv, eqv]
    · rename_i hu
      simp only [beq_iff_eq] at h
      subst h
      obtain ⟨rfl, _⟩ := ha
      obtain ⟨rfl, _⟩ := hb
      simp [Op.equalIn, run_underlying hu, mkv, eqv, beq_bytes]
    · rename_i fs hu
      simp only [Bool.and_eq_true, Bool.not_eq_true'] at h
      obtain ⟨⟨hp, hs⟩, hf⟩ := h
      cases τ with
      | pair τ1 τ2 =>
        simp only [mkv]
        obtain ⟨r, k1, k2⟩ := eq_fields (P := P) (w := w) (d := d) (xs := c1.toArray) (ys := c2.toArray) (fun h ha hb => ih d (by omega) h ha hb) hf (by simpa using ha) (by simpa using hb)
        simp [Op.equalIn, run_underlying hu, hs]
        rw [← Array.forIn_toList, k1, k2, Result.andThen_ok]
        cases eqv (τ1.pair τ2) a b <;> simp
      | _ => simp [Ty.isPair] at hp
    · cases h

theorem eqOk_of {t : TypeId} {τ : Ty} {n : Nat} (hn : n ≤ 10000) (hp : τ.isPair = true) (h : eqN P n τ t = true) (hg : P.eqGuardType P.depth t = false) : EqOk P t τ := by
  intro w op x y a b c1 c2 hop ha hb
  have he := eq_in n Op.maxDepth hn h ha hb
  cases τ with
  | pair τ1 τ2 =>
    simp only [mkv] at he ⊢
    rcases hop with rfl | rfl
    · simp [eqGuard, hg, binOp, Op.equal, he]
    · simp [eqGuard, hg, binOp, Op.equal, he]
  | _ => simp [Ty.isPair] at hp

/-- One row of a table. -/
def tyB (P : Program) (t : TypeId) (i : TI) : Bool :=
  factsB P t i.τ && (match i.τ, P.underlying t with
    | .int k, some (.int k') => k == k'
    | .bool, some .bool => true
    | .str, some .string => true
    | .sl e, some (.slice el) => el == i.el && factsB P el e && (if e == .int .u8 then (match P.underlying el with | some (.int .u8) => true | _ => false) else true)
    | .pair a b, some (.struct fields) => fields.size == i.fs.length && fields.toList.zipIdx.all (fun p => fieldB P (.pair a b) i.fs p.2 p.1) &&
        (if (Ty.pair a b).flat then eqN P 20 (.pair a b) t && !P.eqGuardType P.depth t else true)
    | _, _ => false) && (i.τ.isPair || i.fs.isEmpty)

theorem tyB_ok {t : TypeId} {i : TI} (h : tyB P t i = true) :
    TyOk P t i ∧ (i.τ.isPair = true → i.τ.flat = true → EqOk P t i.τ) ∧ (i.τ.isPair = false → i.fs = []) ∧ (i.τ = .sl (.int .u8) → P.underlying i.el = some (.int .u8)) := by
  obtain ⟨τ, fs, el⟩ := i
  simp only [tyB, Bool.and_eq_true, Bool.or_eq_true] at h
  obtain ⟨⟨h1, h2⟩, h3⟩ := h
  have hf := factsB_ok h1
  cases τ with
  | int k =>
    cases hu : P.underlying t with
    | none => rw [hu] at h2; simp at h2
    | some d =>
      rw [hu] at h2
      cases d <;> simp at h2
      subst h2
      exact ⟨⟨hf, hu⟩, by simp [Ty.isPair], by simpa [Ty.isPair] using h3, by simp⟩
  | bool =>
    cases hu : P.underlying t with
    | none => rw [hu] at h2; simp at h2
    | some d =>
      rw [hu] at h2
      cases d <;> simp at h2
      exact ⟨⟨hf, hu⟩, by simp [Ty.isPair], by simpa [Ty.isPair] using h3, by simp⟩
  | str =>
    cases hu : P.underlying t with
    | none => rw [hu] at h2; simp at h2
    | some d =>
      rw [hu] at h2
      cases d <;> simp at h2
      exact ⟨⟨hf, hu⟩, by simp [Ty.isPair], by simpa [Ty.isPair] using h3, by simp⟩
  | sl e =>
    cases hu : P.underlying t with
    | none => rw [hu] at h2; simp at h2
    | some d =>
      rw [hu] at h2
      cases d <;> simp only [Bool.and_eq_true, beq_iff_eq, Bool.false_eq_true] at h2
      obtain ⟨⟨rfl, h4⟩, h5⟩ := h2
      refine ⟨⟨hf, hu, factsB_ok h4⟩, by simp [Ty.isPair], by simpa [Ty.isPair] using h3, fun he => ?_⟩
      simp only [Ty.sl.injEq] at he
      subst he
      simp only [if_true] at h5
      split at h5
      · assumption
      · cases h5
  | pair a b =>
    cases hu : P.underlying t with
    | none => rw [hu] at h2; simp at h2
    | some d =>
      rw [hu] at h2
      cases d with
      | struct fields =>
        simp only [Bool.and_eq_true, beq_iff_eq] at h2
        obtain ⟨⟨h4, h5⟩, h6⟩ := h2
        refine ⟨⟨hf, fields, hu, h4, fun j f hj => ?_⟩, fun _ hfl => ?_, by simp [Ty.isPair], by simp⟩
        · rw [List.all_eq_true] at h5
          exact fieldB_ok (h5 (f, j) (List.mem_zipIdx_iff_getElem?.2 (by simpa using hj)))
        · rw [if_pos hfl] at h6
          simp only [Bool.and_eq_true, Bool.not_eq_true'] at h6
          exact eqOk_of (by omega) rfl h6.1 h6.2
      | _ => simp at h2

theorem lookup_mem' {α : Type} : ∀ {l : List (Nat × α)} {a : Nat} {b : α}, l.lookup a = some b → (a, b) ∈ l
  | [], _, _, h => by simp [List.lookup] at h
  | (x, y) :: l, a, b, h => by
    simp only [List.lookup] at h
    split at h
    · rename_i e
      simp only [beq_iff_eq] at e
      simp only [Option.some.injEq] at h
      subst e h; simp
    · exact List.mem_cons_of_mem _ (lookup_mem' h)

theorem cxTy_of {C : Cx} {l : List (Nat × TI)} (hl : l.all (fun p => tyB P p.1 p.2) = true) (hC : C.tt = fun t => l.lookup t) : CxTy P C := by
  have : ∀ t i, C.tt t = some i → tyB P t i = true := by
    intro t i h
    rw [hC] at h
    exact List.all_eq_true.1 hl (t, i) (lookup_mem' h)
  exact ⟨fun t i h => (tyB_ok (this t i h)).1, fun t i h => (tyB_ok (this t i h)).2.1, fun t i h => (tyB_ok (this t i h)).2.2.1, fun t i h => (tyB_ok (this t i h)).2.2.2⟩

end
end Vg

/- VG, part 50: the same evaluator in a form that the kernel steps through with no detour: its own checks are matches, what is printed is 'ite'. -/
namespace Vg
open Go

section
variable {ρ : Type}


def applyEf2 (o : Oper) (a : Option Bool) (E : Env) (k : Env → Option ρ) : Ef → Option ρ
  | .val v => k (E.set o.dst (wrapG o.guard a v))
  | .chk c v => if (match a with | none => c | some b => !b || c) = true then k (E.set o.dst (wrapG o.guard a v)) else none
  | .opt _ z x f => (match a with | none => x | some b => if b = true then x else some z).bind fun r => k (E.set o.dst (wrapG o.guard a (f r)))
  | .put b s v => match a.isNone && o.dst.isNone with | true => k { E with s := E.s.set s (.box b v) } | false => none
  | .app c kl gv t v => match a.isNone with | true => (if c = true then k (((E.kill kl).give gv t).set o.dst v.noG) else none) | false => none
  | .elem gv b e l m => match a.isNone && o.dst.isNone with | true => k (E.elem gv b e l m) | false => none
  | .call _ x tks f => match a.isNone with | true => x.bind fun r => let E1 := E.kill tks; k (Env.set { E1 with s := putBoxes (f r).2 E1.s } o.dst (f r).1.noG) | false => none

theorem applyEf2_eq (o : Oper) (a : Option Bool) (E : Env) (k : Env → Option ρ) (ef : Ef) : applyEf2 o a E k ef = applyEf o a E k ef := by
  cases ef with
  | put b s v => simp only [applyEf2, applyEf]; cases (a.isNone && o.dst.isNone) <;> rfl
  | app c kl gv t v => simp only [applyEf2, applyEf]; cases (a.isNone) <;> rfl
  | elem gv b e l m => simp only [applyEf2, applyEf]; cases (a.isNone && o.dst.isNone) <;> rfl
  | call α x tks f => simp only [applyEf2, applyEf]; cases (a.isNone) <;> rfl
  | _ => rfl

def evOps2 (C : Cx) (ops : List Oper) (nt : Nat) : List Oper → Nat → Env → (Env → Option ρ) → Option ρ
  | [], _, E, k => k E
  | o :: l, i, E, k => match guardOf ops E.rd o.guard with
    | none => none
    | some a => match evOp C ops E.rd (nt + 32 * i) o.guard o with
      | none => none
      | some ef => applyEf2 o a E (fun E' => evOps2 C ops nt l (i + 1) E' k) ef

theorem evOps2_eq (C : Cx) (ops : List Oper) (nt : Nat) (k : Env → Option ρ) : ∀ (l : List Oper) (i : Nat) (E : Env), evOps2 C ops nt l i E k = evOps C ops nt l i E k
  | [], _, _ => rfl
  | o :: l, i, E => by
    simp only [evOps2, evOps, applyEf2_eq]
    cases guardOf ops E.rd o.guard with
    | none => rfl
    | some a =>
      simp only
      cases evOp C ops E.rd (nt + 32 * i) o.guard o with
      | none => rfl
      | some ef =>
        simp only
        congr 1
        funext E'
        exact evOps2_eq C ops nt k l (i + 1) E'

def effK2 (o : Oper) (a : Option Bool) (ef : Ef) (k : Tr × List (Nat × SV) → Option ρ) : Option ρ :=
  match ef with
  | .val v => k (.id, wr o.dst (wrapG o.guard a v))
  | .chk c v => if (match a with | none => c | some b => !b || c) = true then k (.id, wr o.dst (wrapG o.guard a v)) else none
  | .opt _ z x f => (match a with | none => x | some b => if b = true then x else some z).bind fun r => k (.id, wr o.dst (wrapG o.guard a (f r)))
  | .put b s v => match a.isNone && o.dst.isNone with | true => k (.id, [(s, .box b v)]) | false => none
  | .app c kl gv t v => match a.isNone with | true => (if c = true then k (.kg kl gv t, wr o.dst v.noG) else none) | false => none
  | .elem gv b e l m => match a.isNone && o.dst.isNone with | true => k (.el gv b e l m, []) | false => none
  | .call _ x tks f => match a.isNone with | true => x.bind fun r => k (.ki tks, (f r).2.map (fun p => (p.2.1, SV.box p.1 p.2.2)) ++ wr o.dst (f r).1.noG) | false => none

theorem effK2_eq (o : Oper) (a : Option Bool) (ef : Ef) (k : Tr × List (Nat × SV) → Option ρ) : effK2 o a ef k = effK o a ef k := by
  cases ef with
  | put b s v => simp only [effK2, effK]; cases (a.isNone && o.dst.isNone) <;> rfl
  | app c kl gv t v => simp only [effK2, effK]; cases (a.isNone) <;> rfl
  | elem gv b e l m => simp only [effK2, effK]; cases (a.isNone && o.dst.isNone) <;> rfl
  | call α x tks f => simp only [effK2, effK]; cases (a.isNone) <;> rfl
  | _ => rfl

def evOpsL2 (C : Cx) (ops : List Oper) (nt : Nat) : List Oper → Nat → Env → List Lab → (Env → List Lab → Option ρ) → Option ρ
  | [], _, E, L, k => k E L
  | o :: l, i, E, L, k => match guardOf ops E.rd o.guard with
    | none => none
    | some a => match evOp C ops E.rd (nt + 32 * i) o.guard o with
      | none => none
      | some ef => effK2 o a ef fun r => evOpsL2 C ops nt l (i + 1) (E.eff r) (labOf ops i o E r :: L) k

theorem evOpsL2_eq (C : Cx) (ops : List Oper) (nt : Nat) (k : Env → List Lab → Option ρ) : ∀ (l : List Oper) (i : Nat) (E : Env) (L : List Lab), evOpsL2 C ops nt l i E L k = evOpsL C ops nt l i E L k
  | [], _, _, _ => rfl
  | o :: l, i, E, L => by
    simp only [evOpsL2, evOpsL, effK2_eq]
    cases guardOf ops E.rd o.guard with
    | none => rfl
    | some a =>
      simp only
      cases evOp C ops E.rd (nt + 32 * i) o.guard o with
      | none => rfl
      | some ef =>
        simp only
        congr 1
        funext r
        exact evOpsL2_eq C ops nt k l (i + 1) (E.eff r) _

def ev2 (C : Cx) : Code → Env → (Env → Option ρ) → List (Nat × (Env → Option ρ)) → (Env → Option ρ) → Option ρ
  | .skip, E, kn, _, _ => kn E
  | .region _ ops draw, E, kn, _, _ => match guardsOk ops.toList && keeps C.io ops.toList with
    | true => (match draw with
      | true => evOpsL2 C ops.toList E.nt ops.toList 0 E [] (fun E' L => match labsOk ops.toList L with | true => kn { clearG E' ops.toList with nt := E.nt + 32 * ops.size } | false => none)
      | false => evOps2 C ops.toList E.nt ops.toList 0 E (fun E' => kn { clearG E' ops.toList with nt := E.nt + 32 * ops.size }))
    | false => none
  | .seq a b, E, kn, ke, kr =>
    match (firstReg b).bind C.ja with
    | none => ev2 C a E (fun E' => ev2 C b E' kn ke kr) ke kr
    | some n => joinC (fun J => ev2 C a E (fun E' => match proj n E' with | some t => J t | none => none) ke kr) (fun t => ev2 C b (unproj C.n n t) kn ke kr)
  | .cond c x y, E, kn, ke, kr =>
    match arg C E.rd none 0 c with
    | some (.d ⟨.bool, b, _⟩) => if b = true then ev2 C x E kn ke kr else ev2 C y E kn ke kr
    | _ => none
  | .block id c, E, kn, ke, kr => ev2 C c E kn ((id, kn) :: ke) kr
  | .loop c, E, _, ke, kr =>
    match (firstReg c).bind C.la with
    | none => none
    | some n => match proj n E with
      | some t => loopN C.k (fun G t => ev2 C c (unproj C.n n t) (fun E' => match proj n E' with | some t => G t | none => none) ke kr) t
      | none => none
  | .exit id, E, _, ke, _ => match ke.lookup id with | some k => k E | none => none
  | .ret, E, _, _, kr => kr E
  | _, _, _, _, _ => none

theorem bind_match {α β : Type} (x : Option α) (f : α → Option β) : (match x with | some t => f t | none => none) = x.bind f := by cases x <;> rfl

theorem ev2_eq (C : Cx) : ∀ (c : Code) (E : Env) (kn : Env → Option ρ) (ke : List (Nat × (Env → Option ρ))) (kr : Env → Option ρ), ev2 C c E kn ke kr = ev C c E kn ke kr := by
  intro c
  induction c with
  | region id ops draw =>
    intro E kn ke kr
    simp only [ev2, ev]
    cases h : (guardsOk ops.toList && keeps C.io ops.toList) with
    | false => rfl
    | true =>
      simp only [if_true]
      cases draw with
      | true =>
        simp only [if_true, evOpsL2_eq]
        congr 1
        funext E' L
        cases labsOk ops.toList L <;> rfl
      | false => simp only [Bool.false_eq_true, if_false, evOps2_eq]
  | seq a b iha ihb =>
    intro E kn ke kr
    simp only [ev2, ev]
    cases (firstReg b).bind C.ja with
    | none => simp only [iha, ihb]
    | some n =>
      simp only [iha, ihb]
      congr 1
      funext J
      congr 1
      funext E'
      cases proj n E' <;> rfl
  | cond c x y ihx ihy => intro E kn ke kr; simp only [ev2, ev, ihx, ihy]; rfl
  | block id c ih => intro E kn ke kr; simp only [ev2, ev, ih]
  | loop c ih =>
    intro E kn ke kr
    simp only [ev2, ev]
    cases (firstReg c).bind C.la with
    | none => rfl
    | some n =>
      simp only [ih]
      cases proj n E with
      | none => rfl
      | some t =>
        simp only [Option.bind_some]
        congr 1
        funext G t
        congr 1
        funext E'
        cases proj n E' <;> rfl
  | _ => intros; rfl

end

def evFn2 (C : Cx) (ps : List PK) (rs : List RK) (fn : Func) (x : TupD (ps.map PK.ty)) : Option (TupD (rs.map RK.ty ++ ioTys ps)) :=
  match fn.body with
  | none => none
  | some c =>
    let e := env0 ps x 3
    ev2 { C with n := fn.ntmps, io := ioIdx ps 0 } c ⟨e.1 ++ List.replicate (fn.ntmps - e.1.length) .no, e.2⟩ (fin C.tt ps rs fn.results.toList e.2) [] (fin C.tt ps rs fn.results.toList e.2)

theorem evFn2_eq (C : Cx) (ps : List PK) (rs : List RK) (fn : Func) (x : TupD (ps.map PK.ty)) : evFn2 C ps rs fn x = evFn C ps rs fn x := by
  unfold evFn2 evFn
  cases fn.body with
  | none => rfl
  | some c => exact ev2_eq ..

end Vg

/- VG, part 49: what a printed text leans on. -/
namespace Vg
open Go

def mkCx (tt : List (Nat × TI)) (cts : List (FuncId × Con)) (la ja : Nat → Option Ann) (k : Nat) : Cx :=
  ⟨fun t => tt.lookup t, fun f => cts.lookup f, la, ja, k, 0, []⟩

def AllM (P : Program) : List (FuncId × Con) → Prop
  | [] => True
  | p :: l => Meets P p.1 p.2 ∧ AllM P l

theorem AllM.mem {P : Program} : ∀ {l : List (FuncId × Con)}, AllM P l → ∀ p ∈ l, Meets P p.1 p.2
  | [], _, _, h => by cases h
  | q :: l, ⟨h1, h2⟩, p, h => by
    rcases List.mem_cons.1 h with rfl | h
    · exact h1
    · exact AllM.mem h2 p h

theorem cx_ok {P : Program} {tt : List (Nat × TI)} (h1 : tt.all (fun p => tyB P p.1 p.2) = true) (hm : P.follows .mixedOrders = true) {cts : List (FuncId × Con)} (hc : AllM P cts) {la ja : Nat → Option Ann} {k : Nat} :
    CxOk P (mkCx tt cts la ja k) :=
  ⟨cxTy_of h1 rfl, fun f con h => hc.mem (f, con) (lookup_mem' h), hm⟩

/-- A function's contract, from the evaluator's equation. -/
theorem meets_ev {P : Program} {tt : List (Nat × TI)} (h1 : tt.all (fun p => tyB P p.1 p.2) = true) (hm : P.follows .mixedOrders = true) {cts : List (FuncId × Con)} (hc : AllM P cts) {la ja : Nat → Option Ann} {k : Nat}
    {f : FuncId} {fn : Func} (hf : P.funcs[f]? = some fn) (hname : (fn.name == "runtime.NumGoroutine") = false) {ps : List PK} {rs : List RK} (hn : decide (ps.length ≤ fn.ntmps) = true)
    {F : TupD (ps.map PK.ty) → Option (TupD (rs.map RK.ty ++ ioTys ps))} (hF : ∀ x, evFn2 (mkCx tt cts la ja k) ps rs fn x = F x) : Meets P f ⟨ps, rs, F⟩ :=
  fn_ok (cx_ok h1 hm hc) hf hname (of_decide_eq_true hn) (fun x _ h => (evFn2_eq ..).symm.trans ((hF x).trans h))

end Vg

/- VG, part 51: plain laws of what is printed: loops; sizes, copies, comparisons. -/
namespace Vg
open Go

theorem wrap64 {n : Int} (h : -9223372036854775808 ≤ n) (h' : n < 9223372036854775808) : IntKind.i64.wrap n = n := by
  simp only [IntKind.wrap, IntKind.signed, IntKind.bits]
  simp
  omega

/-- A loop that comes nearer to its end with each round. -/
theorem loopN_ix {σ ρ : Type} {f : (σ → Option ρ) → σ → Option ρ} (g : σ → Option ρ) (m : σ → Nat) (I : σ → Prop)
    (h : ∀ G s, I s → (∀ s', I s' → m s' < m s → G s' = g s') → f G s = g s) : ∀ (k : Nat) (s : σ), I s → m s < k → loopN k f s = g s
  | 0, _, _, hm => by omega
  | k + 1, s, hi, hm => by
    show f (loopN k f) s = g s
    exact h _ s hi (fun s' hi' hm' => loopN_ix g m I h k s' hi' (by omega))

/-- Two loops in step. -/
theorem loop_sim {σ σ' ρ ρ' : Type} {f : (σ → Option ρ) → σ → Option ρ} {f' : (σ' → Option ρ') → σ' → Option ρ'} (R : σ → σ' → Prop) (S : Option ρ → Option ρ' → Prop) (h0 : S none none)
    (h : ∀ G G' s s', R s s' → (∀ t t', R t t' → S (G t) (G' t')) → S (f G s) (f' G' s')) : ∀ (k : Nat) (s : σ) (s' : σ'), R s s' → S (loopN k f s) (loopN k f' s')
  | 0, _, _, _ => h0
  | k + 1, s, s', hr => h _ _ s s' hr (fun t t' ht => loop_sim R S h0 h k t t' ht)

/-- A loop ends, and what it ends with. -/
theorem loopN_tot {σ ρ : Type} {f : (σ → Option ρ) → σ → Option ρ} (m : σ → Nat) (I : σ → Prop) (P : ρ → Prop)
    (h : ∀ G s, I s → (∀ s', I s' → m s' < m s → ∃ r, G s' = some r ∧ P r) → ∃ r, f G s = some r ∧ P r) : ∀ (k : Nat) (s : σ), I s → m s < k → ∃ r, loopN k f s = some r ∧ P r
  | 0, _, _, hm => by omega
  | k + 1, s, hi, hm => h _ s hi (fun s' hi' hm' => loopN_tot m I P h k s' hi' (by omega))

/-- How much a value holds: elements and letters. -/
def tot : (τ : Ty) → τ.den → Nat
  | .int _, _ => 0
  | .bool, _ => 0
  | .str, s => s.size
  | .sl e, l => l.length + (l.map (tot e)).sum
  | .pair a b, p => tot a p.1 + tot b p.2

/-- What is left of a bound. -/
def szv (t : Nat) (left : Int) : Int := if (t : Int) ≤ left then left - t else -1

theorem szv_neg {t : Nat} {left : Int} : szv t left < 0 ↔ ¬ (t : Int) ≤ left := by
  unfold szv
  split <;> omega

theorem szv_le {t : Nat} {left : Int} (h : 0 ≤ left) : szv t left ≤ left := by
  unfold szv
  split <;> omega

theorem szv_add {a b : Nat} {left : Int} (h : ¬ szv a left < 0) : szv b (szv a left) = szv (a + b) left := by
  rw [szv_neg] at h
  have h1 : (a : Int) ≤ left := by omega
  simp only [szv, if_pos h1]
  split <;> split <;> omega

theorem szv_over {a b : Nat} {left : Int} (h : szv a left < 0) : szv (a + b) left = -1 := by
  rw [szv_neg] at h
  unfold szv
  rw [if_neg (by omega)]

theorem szv_some {t : Nat} {left : Int} (h : ¬ szv t left < 0) : 0 ≤ szv t left ∧ (t : Int) ≤ left := by
  rw [szv_neg] at h
  have h1 : (t : Int) ≤ left := by omega
  simp only [szv, if_pos h1]
  omega

/-- A text's part of a size. -/
theorem str_sz {s : ByteArray} {left : Int} (hs : s.size ≤ maxLen) (h0 : 0 ≤ left) (h1 : left ≤ 1048576) :
    (if (decide (IntKind.i64.wrap (left - (s.size : Int)) < 0)) = true then (-1 : Int) else IntKind.i64.wrap (left - (s.size : Int))) = szv s.size left := by
  unfold maxLen at hs
  rw [wrap64 (by omega) (by omega)]
  unfold szv
  by_cases h : left - (s.size : Int) < 0
  · rw [if_pos (by simpa using h), if_neg (by omega)]
  · rw [if_neg (by simpa using h), if_pos (by omega)]

theorem str_neg {s : ByteArray} {left : Int} (hs : s.size ≤ maxLen) (h0 : 0 ≤ left) (h1 : left ≤ 1048576) : decide (IntKind.i64.wrap (left - (s.size : Int)) < 0) = decide (szv s.size left < 0) := by
  unfold maxLen at hs
  rw [wrap64 (by omega) (by omega)]
  unfold szv
  by_cases h : left - (s.size : Int) < 0
  · rw [if_neg (by omega)]; simpa using h
  · rw [if_pos (by omega)]

theorem str_wrap {s : ByteArray} {left : Int} (hs : s.size ≤ maxLen) (h0 : 0 ≤ left) (h1 : left ≤ 1048576) (h : ¬ szv s.size left < 0) : IntKind.i64.wrap (left - (s.size : Int)) = szv s.size left := by
  unfold maxLen at hs
  rw [wrap64 (by omega) (by omega)]
  rw [szv_neg] at h
  unfold szv
  rw [if_pos (by omega)]

def szS {α : Type} (k : Nat) (d : α) (S : α × Int × Unit → Option (Int × Unit)) (x : List α × Int × Unit) : Option (Int × Unit) :=
  if (decide (((IntKind.i64.wrap (x.2.1 - ((List.length x.1 : Nat) : Int))) : Int) < 0)) = true then
    some ((-1), ())
  else
    loopN k (fun G1 (t2 : List α × Int × Int × Unit) =>
      if (decide ((t2.2.2.1 : Int) < ((List.length t2.1 : Nat) : Int))) = true then
        if (decide (0 ≤ t2.2.2.1 ∧ t2.2.2.1 < ((List.length t2.1 : Nat) : Int))) = true then
          Option.bind (S (List.getD t2.1 (Int.toNat t2.2.2.1) d, t2.2.1, ())) fun (r3 : Int × Unit) =>
          if (decide ((r3.1 : Int) < 0)) = true then
            some ((-1), ())
          else
            G1 (t2.1, r3.1, IntKind.i64.wrap (t2.2.2.1 + 1), ())
        else
          none
      else
        some (t2.2.1, ())) (x.1, IntKind.i64.wrap (x.2.1 - ((List.length x.1 : Nat) : Int)), 0, ())

theorem getD_mem {α : Type} {l : List α} {i : Nat} {d : α} (h : i < l.length) : l.getD i d ∈ l := by
  rw [List.getD_eq_getElem?_getD, List.getElem?_eq_getElem h]; simp

theorem drop_getD {α : Type} {l : List α} {i : Nat} {d : α} (h : i < l.length) : l.drop i = l.getD i d :: l.drop (i + 1) := by
  rw [List.drop_eq_getElem_cons h, List.getD_eq_getElem?_getD, List.getElem?_eq_getElem h]; rfl

theorem szS_gen {α : Type} {k : Nat} {d : α} {S : α × Int × Unit → Option (Int × Unit)} {t : α → Nat} {l : List α} {left : Int} (hk : 9223372036854775808 ≤ k) (hl : l.length ≤ maxLen) (h0 : 0 ≤ left) (h1 : left ≤ 1048576)
    (hS : ∀ e ∈ l, ∀ left, 0 ≤ left → left ≤ 1048576 → ∃ r, S (e, left, ()) = some (r, ()) ∧ (r < 0 ↔ szv (t e) left < 0) ∧ (¬ szv (t e) left < 0 → r = szv (t e) left)) : szS k d S (l, left, ()) = some (szv (l.length + (l.map t).sum) left, ()) := by
  have hlen : (l.length : Int) < 9223372036854775808 := by
    unfold maxLen at hl; omega
  unfold szS
  simp only
  rw [wrap64 (by omega) (by omega)]
  by_cases hneg : left - (l.length : Int) < 0
  · rw [if_pos (by simpa using hneg)]
    unfold szv
    rw [if_neg (by omega)]
  · rw [if_neg (by simpa using hneg)]
    rw [loopN_ix (g := fun (s : List α × Int × Int × Unit) => some (szv (((s.1.drop s.2.2.1.toNat).map t).sum) s.2.1, ())) (m := fun (s : List α × Int × Int × Unit) => s.1.length - s.2.2.1.toNat)
      (I := fun (s : List α × Int × Int × Unit) => s.1 = l ∧ 0 ≤ s.2.2.1 ∧ s.2.2.1 ≤ (l.length : Int) ∧ 0 ≤ s.2.1 ∧ s.2.1 ≤ 1048576)]
    · simp only [Int.toNat_zero, List.drop_zero]
      unfold szv
      congr 2
      split <;> split <;> omega
    · rintro G ⟨l', lf, i, u⟩ ⟨he, hi0, hi1, hl0, hl1⟩ hG
      change l' = l at he
      subst he
      simp only at hi0 hi1 hl0 hl1 hG ⊢
      by_cases hi : i < (l'.length : Int)
      · rw [if_pos (by simpa using hi), if_pos (by simpa using ⟨hi0, hi⟩)]
        have hin : i.toNat < l'.length := by omega
        obtain ⟨r, hr, hr1, hr2⟩ := hS _ (getD_mem (d := d) hin) lf hl0 hl1
        rw [hr, Option.bind_some, drop_getD (d := d) hin]
        simp only [List.map_cons, List.sum_cons]
        by_cases hn : szv (t (l'.getD i.toNat d)) lf < 0
        · rw [if_pos (by simpa using hr1.2 hn), szv_over hn]
        · rw [if_neg (by simpa using fun h => hn (hr1.1 h)), ← szv_add hn, hr2 hn]
          have hs := szv_some hn
          have hle := szv_le (t := t (l'.getD i.toNat d)) hl0
          rw [wrap64 (by omega) (by omega)]
          rw [hG (l', szv (t (l'.getD i.toNat d)) lf, i + 1, ()) ⟨rfl, by simp only; omega, by simp only; omega, by simp only; omega, by simp only; omega⟩ (by simp only; omega)]
          simp only
          rw [show (i + 1).toNat = i.toNat + 1 by omega]
      · rw [if_neg (by simpa using hi)]
        rw [List.drop_eq_nil_of_le (by omega)]
        simp [szv, hl0]
    · exact ⟨rfl, by simp, by simp, by simp only; omega, by simp only; omega⟩
    · simp only
      omega

theorem szS_ok {α : Type} {k : Nat} {d : α} {S : α × Int × Unit → Option (Int × Unit)} {t : α → Nat} {l : List α} {left : Int} (hk : 9223372036854775808 ≤ k) (hl : l.length ≤ maxLen) (h0 : 0 ≤ left) (h1 : left ≤ 1048576)
    (hS : ∀ e ∈ l, ∀ left, 0 ≤ left → left ≤ 1048576 → S (e, left, ()) = some (szv (t e) left, ())) : szS k d S (l, left, ()) = some (szv (l.length + (l.map t).sum) left, ()) :=
  szS_gen hk hl h0 h1 (fun e he left a b => ⟨_, hS e he left a b, Iff.rfl, fun _ => rfl⟩)

theorem szT_ok {k : Nat} {l : List ByteArray} {left : Int} (hk : 9223372036854775808 ≤ k) (hx : Fits (.sl .str) l) (h0 : 0 ≤ left) (h1 : left ≤ 1048576) :
    szS k ByteArray.empty (fun z => some (IntKind.i64.wrap (z.2.1 - ((ByteArray.size z.1 : Nat) : Int)), ())) (l, left, ()) = some (szv (tot (.sl .str) l) left, ()) :=
  szS_gen (t := ByteArray.size) hk hx.1 h0 h1 (fun e he lf a b => ⟨_, rfl, by have := str_neg (hx.2 e he) a b; simpa using this, fun h => str_wrap (hx.2 e he) a b h⟩)

def szZ {α : Type} (x : List α × Int × Unit) : Option (Int × Unit) :=
  if (decide (((IntKind.i64.wrap (x.2.1 - ((List.length x.1 : Nat) : Int))) : Int) < 0)) = true then
    some ((-1), ())
  else
    some (IntKind.i64.wrap (x.2.1 - ((List.length x.1 : Nat) : Int)), ())

/-- A type of numbers alone. -/
def Ty.noTot : Ty → Bool
  | .int _ | .bool => true
  | .pair a b => a.noTot && b.noTot
  | _ => false

theorem noTot_ok : ∀ {τ : Ty} (x : τ.den), τ.noTot = true → tot τ x = 0
  | .int _, _, _ | .bool, _, _ => rfl
  | .pair a b, x, h => by
    simp only [Ty.noTot, Bool.and_eq_true] at h
    simp only [tot, noTot_ok x.1 h.1, noTot_ok x.2 h.2]
  | .str, _, h | .sl _, _, h => by simp [Ty.noTot] at h

theorem szZ_ok {e : Ty} {k : Nat} {F : Nat → List e.den × Int × Unit → Option (Int × Unit)} (hF : ∀ x, F k x = szZ x) (hz : e.noTot = true) {l : List e.den} {left : Int} (hx : Fits (.sl e) l) (h0 : 0 ≤ left) (h1 : left ≤ 1048576) :
    F k (l, left, ()) = some (szv (tot (.sl e) l) left, ()) := by
  have hl : l.length ≤ maxLen := hx.1
  unfold maxLen at hl
  have ht : tot (.sl e) l = l.length := by
    have : ∀ m : List e.den, (m.map (tot e)).sum = 0 := by
      intro m
      induction m with
      | nil => rfl
      | cons a m ih => simp only [List.map_cons, List.sum_cons, ih, noTot_ok a hz]
    simp only [tot, this]; omega
  rw [hF, ht]
  simp only [szZ]
  rw [wrap64 (by omega) (by omega)]
  unfold szv
  by_cases h : left - (l.length : Int) < 0
  · rw [if_pos (by simpa using h), if_neg (by omega)]
  · rw [if_neg (by simpa using h), if_pos (by omega)]

theorem szv_big {a t : Nat} {left : Int} (h : szv a left < 0) (hle : a ≤ t) : szv t left = -1 := by
  rw [szv_neg] at h
  unfold szv
  rw [if_neg (by omega)]

def toS {α : Type} (k : Nat) (d : α) (S : α × Unit → Option (α × Unit)) (x : List α × Unit) : Option (List α × Unit) :=
  if (decide (0 ≤ ((List.length x.1 : Nat) : Int) ∧ ((List.length x.1 : Nat) : Int) < 4294967296 ∧ ((List.length x.1 : Nat) : Int) = ((List.length x.1 : Nat) : Int))) = true then
    loopN k (fun G1 (t2 : List α × List α × Int × Unit) =>
      if (decide ((t2.2.2.1 : Int) < ((List.length t2.1 : Nat) : Int))) = true then
        if (decide (0 ≤ t2.2.2.1 ∧ t2.2.2.1 < ((List.length t2.1 : Nat) : Int))) = true then
          Option.bind (S (List.getD t2.1 (Int.toNat t2.2.2.1) d, ())) fun (r3 : α × Unit) =>
          if (decide (0 ≤ t2.2.2.1 ∧ t2.2.2.1 < ((List.length t2.2.1 : Nat) : Int))) = true then
            G1 (t2.1, List.set t2.2.1 (Int.toNat t2.2.2.1) r3.1, IntKind.i64.wrap (t2.2.2.1 + 1), ())
          else
            none
        else
          none
      else
        some (t2.2.1, ())) (x.1, List.replicate (Int.toNat ((List.length x.1 : Nat) : Int)) d, 0, ())
  else
    none

theorem toS_ok {α : Type} {k : Nat} {d : α} {S : α × Unit → Option (α × Unit)} {l : List α} (hk : 9223372036854775808 ≤ k) (hl : l.length ≤ 1048576) (hS : ∀ e ∈ l, S (e, ()) = some (e, ())) : toS k d S (l, ()) = some (l, ()) := by
  unfold toS
  simp only
  rw [if_pos (by simp; omega)]
  rw [loopN_ix (g := fun (s : List α × List α × Int × Unit) => some (l, ())) (m := fun (s : List α × List α × Int × Unit) => l.length - s.2.2.1.toNat)
    (I := fun (s : List α × List α × Int × Unit) => s.1 = l ∧ 0 ≤ s.2.2.1 ∧ s.2.2.1 ≤ (l.length : Int) ∧ s.2.1 = l.take s.2.2.1.toNat ++ List.replicate (l.length - s.2.2.1.toNat) d)]
  · rintro G ⟨l', o, i, u⟩ ⟨he, hi0, hi1, ho⟩ hG
    change l' = l at he
    subst he
    simp only at hi0 hi1 ho hG ⊢
    subst ho
    by_cases hi : i < (l'.length : Int)
    · have hin : i.toNat < l'.length := by omega
      rw [if_pos (by simpa using hi), if_pos (by simpa using ⟨hi0, hi⟩), hS _ (getD_mem hin), Option.bind_some]
      rw [if_pos (by simp; omega), wrap64 (by omega) (by omega)]
      refine hG (l', _, i + 1, ()) ⟨rfl, by simp only; omega, by simp only; omega, ?_⟩ (by simp only; omega)
      simp only
      have hlt : (l'.take i.toNat).length = i.toNat := by simp; omega
      rw [List.set_append_right _ _ (by omega), hlt, Nat.sub_self]
      rw [show l'.length - i.toNat = (l'.length - (i + 1).toNat) + 1 by omega, List.replicate_succ, List.set_cons_zero]
      have ht : l'.take (i.toNat + 1) = l'.take i.toNat ++ [l'[i.toNat]] := by
        rw [List.take_add_one, List.getElem?_eq_getElem hin]; rfl
      rw [show (i + 1).toNat = i.toNat + 1 by omega, ht, List.getD_eq_getElem?_getD, List.getElem?_eq_getElem hin, List.append_assoc]
      rfl
    · rw [if_neg (by simpa using hi)]
      have : i.toNat = l'.length := by omega
      rw [this]
      simp
  · exact ⟨rfl, by simp, by simp, by simp⟩
  · simp only
    omega

theorem toI_ok {α : Type} {k : Nat} {d : α} {l : List α} (hk : 9223372036854775808 ≤ k) (hl : l.length ≤ 1048576) : toS k d (fun z => some (z.1, ())) (l, ()) = some (l, ()) :=
  toS_ok hk hl (fun _ _ => rfl)

def eqS {α : Type} (k : Nat) (d : α) (S : α × α × Unit → Option (Bool × Unit)) (x : List α × List α × Unit) : Option (Bool × Unit) :=
  if ((((List.length x.1 : Nat) : Int) : Int) != ((List.length x.2.1 : Nat) : Int)) = true then
    some (false, ())
  else
    loopN k (fun G1 (t2 : List α × List α × Int × Unit) =>
      if (decide ((t2.2.2.1 : Int) < ((List.length t2.1 : Nat) : Int))) = true then
        if (decide (0 ≤ t2.2.2.1 ∧ t2.2.2.1 < ((List.length t2.1 : Nat) : Int))) = true then
          if (decide (0 ≤ t2.2.2.1 ∧ t2.2.2.1 < ((List.length t2.2.1 : Nat) : Int))) = true then
            Option.bind (S (List.getD t2.1 (Int.toNat t2.2.2.1) d, List.getD t2.2.1 (Int.toNat t2.2.2.1) d, ())) fun (r3 : Bool × Unit) =>
            if (!r3.1) = true then
              some (false, ())
            else
              G1 (t2.1, t2.2.1, IntKind.i64.wrap (t2.2.2.1 + 1), ())
          else
            none
        else
          none
      else
        some (true, ())) (x.1, x.2.1, 0, ())

theorem eqS_ok {α : Type} {k : Nat} {d : α} {S : α × α × Unit → Option (Bool × Unit)} {l : List α} (hk : 9223372036854775808 ≤ k) (hl : l.length ≤ 281474976710656) (hS : ∀ e ∈ l, S (e, e, ()) = some (true, ())) : eqS k d S (l, l, ()) = some (true, ()) := by
  unfold eqS
  simp only
  rw [if_neg (by simp)]
  rw [loopN_ix (g := fun (s : List α × List α × Int × Unit) => some (true, ())) (m := fun (s : List α × List α × Int × Unit) => l.length - s.2.2.1.toNat)
    (I := fun (s : List α × List α × Int × Unit) => s.1 = l ∧ s.2.1 = l ∧ 0 ≤ s.2.2.1 ∧ s.2.2.1 ≤ (l.length : Int))]
  · rintro G ⟨l', o, i, u⟩ ⟨he, ho, hi0, hi1⟩ hG
    change l' = l at he
    subst he
    simp only at hi0 hi1 ho hG ⊢
    subst ho
    by_cases hi : i < (o.length : Int)
    · have hin : i.toNat < o.length := by omega
      rw [if_pos (by simpa using hi), if_pos (by simpa using ⟨hi0, hi⟩), if_pos (by simpa using ⟨hi0, hi⟩), hS _ (getD_mem hin), Option.bind_some]
      rw [if_neg (by simp), wrap64 (by omega) (by omega)]
      exact hG (o, o, i + 1, ()) ⟨rfl, rfl, by simp only; omega, by simp only; omega⟩ (by simp only; omega)
    · rw [if_neg (by simpa using hi)]
  · exact ⟨rfl, rfl, by simp, by simp⟩
  · simp only
    omega

theorem eqI_ok {κ : IntKind} {k : Nat} {l : List (Ty.den (.int κ))} (hk : 9223372036854775808 ≤ k) (hl : l.length ≤ 281474976710656) : eqS (α := Int) k 0 (fun z => some ((z.1 : Int) == z.2.1, ())) (l, l, ()) = some (true, ()) :=
  eqS_ok (α := Int) hk hl (fun e _ => by simp)

theorem eqT_ok {k : Nat} {l : List ByteArray} (hk : 9223372036854775808 ≤ k) (hl : l.length ≤ 281474976710656) : eqS k ByteArray.empty (fun z => some (ByteArray.toList z.1 == ByteArray.toList z.2.1, ())) (l, l, ()) = some (true, ()) :=
  eqS_ok hk hl (fun e _ => by simp)

/-- Two lists, place by place. -/
def allEq {α : Type} (p : α → α → Bool) : List α → List α → Bool
  | [], [] => true
  | a :: l, b :: m => p a b && allEq p l m
  | _, _ => false

theorem allEq_len {α : Type} {p : α → α → Bool} : ∀ {l m : List α}, l.length ≠ m.length → allEq p l m = false
  | [], [], h => absurd rfl h
  | a :: l, b :: m, h => by
    simp only [allEq]
    rw [allEq_len (l := l) (m := m) (fun e => h (by simp [e]))]
    simp
  | [], _ :: _, _ | _ :: _, [], _ => rfl

theorem eqS_all {α : Type} {k : Nat} {d : α} {S : α × α × Unit → Option (Bool × Unit)} {p : α → α → Bool} {l m : List α} (hk : 9223372036854775808 ≤ k) (hl : l.length ≤ 281474976710656) (hS : ∀ a ∈ l, ∀ b ∈ m, S (a, b, ()) = some (p a b, ())) :
    eqS k d S (l, m, ()) = some (allEq p l m, ()) := by
  unfold eqS
  simp only
  by_cases hlen : l.length = m.length
  · rw [if_neg (by simp [hlen])]
    rw [loopN_ix (g := fun (s : List α × List α × Int × Unit) => some (allEq p (l.drop s.2.2.1.toNat) (m.drop s.2.2.1.toNat), ())) (m := fun (s : List α × List α × Int × Unit) => l.length - s.2.2.1.toNat)
      (I := fun (s : List α × List α × Int × Unit) => s.1 = l ∧ s.2.1 = m ∧ 0 ≤ s.2.2.1 ∧ s.2.2.1 ≤ (l.length : Int))]
    · simp
    · rintro G ⟨l', m', i, u⟩ ⟨e1, e2, hi0, hi1⟩ hG
      change l' = l at e1
      change m' = m at e2
      subst e1 e2
      simp only at hi0 hi1 hG ⊢
      by_cases hi : i < (l'.length : Int)
      · have h1 : i.toNat < l'.length := by omega
        have h2 : i.toNat < m'.length := by omega
        rw [if_pos (by simpa using hi), if_pos (by simpa using ⟨hi0, hi⟩), if_pos (by simpa using ⟨hi0, by omega⟩)]
        rw [hS _ (getD_mem h1) _ (getD_mem h2), Option.bind_some, drop_getD (d := d) h1, drop_getD (d := d) h2]
        simp only [allEq]
        cases p (l'.getD i.toNat d) (m'.getD i.toNat d) with
        | true =>
          rw [if_neg (by simp), wrap64 (by omega) (by omega), hG (l', m', i + 1, ()) ⟨rfl, rfl, by simp only; omega, by simp only; omega⟩ (by simp only; omega)]
          simp only [Bool.true_and]
          rw [show (i + 1).toNat = i.toNat + 1 by omega]
        | false => rfl
      · rw [if_neg (by simpa using hi), List.drop_eq_nil_of_le (by omega), List.drop_eq_nil_of_le (by omega)]
        rfl
    · exact ⟨rfl, rfl, by simp, by simp⟩
    · simp only
      omega
  · rw [if_pos (by simp; omega), allEq_len hlen]

def eqR {α : Type} (k : Nat) (d : α) (S : α × α × Unit → Option (Bool × Unit)) (x : List α × List α × Unit) : Option (Bool × Unit) :=
  if ((((List.length x.1 : Nat) : Int) : Int) != ((List.length x.2.1 : Nat) : Int)) = true then
    some (false, ())
  else
    loopN k (fun G1 (t2 : List α × List α × Int × Int × Unit) =>
      if (decide ((t2.2.2.2.1 : Int) < t2.2.2.1)) = true then
        if (decide (0 ≤ t2.2.2.2.1 ∧ t2.2.2.2.1 < ((List.length t2.1 : Nat) : Int))) = true then
          if (decide (0 ≤ t2.2.2.2.1 ∧ t2.2.2.2.1 < ((List.length t2.2.1 : Nat) : Int))) = true then
            Option.bind (S (List.getD t2.1 (Int.toNat t2.2.2.2.1) d, List.getD t2.2.1 (Int.toNat t2.2.2.2.1) d, ())) fun (r3 : Bool × Unit) =>
            if (!r3.1) = true then
              some (false, ())
            else
              G1 (t2.1, t2.2.1, t2.2.2.1, IntKind.i64.wrap (t2.2.2.2.1 + 1), ())
          else
            none
        else
          none
      else
        some (true, ())) (x.1, x.2.1, ((List.length x.1 : Nat) : Int), 0, ())

theorem eqR_all {α : Type} {k : Nat} {d : α} {S : α × α × Unit → Option (Bool × Unit)} {p : α → α → Bool} {l m : List α} (hk : 9223372036854775808 ≤ k) (hl : l.length ≤ 281474976710656) (hS : ∀ a ∈ l, ∀ b ∈ m, S (a, b, ()) = some (p a b, ())) :
    eqR k d S (l, m, ()) = some (allEq p l m, ()) := by
  unfold eqR
  simp only
  by_cases hlen : l.length = m.length
  · rw [if_neg (by simp [hlen])]
    rw [loopN_ix (g := fun (s : List α × List α × Int × Int × Unit) => some (allEq p (l.drop s.2.2.2.1.toNat) (m.drop s.2.2.2.1.toNat), ())) (m := fun (s : List α × List α × Int × Int × Unit) => l.length - s.2.2.2.1.toNat)
      (I := fun (s : List α × List α × Int × Int × Unit) => s.1 = l ∧ s.2.1 = m ∧ s.2.2.1 = (l.length : Int) ∧ 0 ≤ s.2.2.2.1 ∧ s.2.2.2.1 ≤ (l.length : Int))]
    · simp
    · rintro G ⟨l', m', n, i, u⟩ ⟨e1, e2, e3, hi0, hi1⟩ hG
      change l' = l at e1
      change m' = m at e2
      change n = _ at e3
      subst e1 e2 e3
      simp only at hi0 hi1 hG ⊢
      by_cases hi : i < (l'.length : Int)
      · have h1 : i.toNat < l'.length := by omega
        have h2 : i.toNat < m'.length := by omega
        rw [if_pos (by simpa using hi), if_pos (by simpa using ⟨hi0, hi⟩), if_pos (by simpa using ⟨hi0, by omega⟩)]
        rw [hS _ (getD_mem h1) _ (getD_mem h2), Option.bind_some, drop_getD (d := d) h1, drop_getD (d := d) h2]
        simp only [allEq]
        cases p (l'.getD i.toNat d) (m'.getD i.toNat d) with
        | true =>
          rw [if_neg (by simp), wrap64 (by omega) (by omega), hG (l', m', _, i + 1, ()) ⟨rfl, rfl, rfl, by simp only; omega, by simp only; omega⟩ (by simp only; omega)]
          simp only [Bool.true_and]
          rw [show (i + 1).toNat = i.toNat + 1 by omega]
        | false => rfl
      · rw [if_neg (by simpa using hi), List.drop_eq_nil_of_le (by omega), List.drop_eq_nil_of_le (by omega)]
        rfl
    · exact ⟨rfl, rfl, rfl, by simp, by simp⟩
    · simp only
      omega
  · rw [if_pos (by simp; omega), allEq_len hlen]

theorem ite_some {α : Type} {c : Prop} [Decidable c] (a b : α) : (if c then some a else some b) = some (if c then a else b) := by split <;> rfl

theorem toList_inj {a b : ByteArray} (h : a.toList = b.toList) : a = b := by
  rw [ByteArray.toList_eq, ByteArray.toList_eq] at h
  cases a; cases b
  simp at h
  rw [h]

theorem eqv_iff : ∀ {τ : Ty} {a b : τ.den}, τ.flat = true → (eqv τ a b = true ↔ a = b)
  | .int _, a, b, _ => by simp [eqv]
  | .bool, a, b, _ => by simp [eqv]
  | .str, a, b, _ => by
    simp only [eqv, beq_iff_eq]
    exact ⟨toList_inj, fun h => by rw [h]⟩
  | .pair x y, a, b, h => by
    simp only [Ty.flat, Bool.and_eq_true] at h
    simp only [eqv, Bool.and_eq_true, eqv_iff h.1, eqv_iff h.2]
    exact ⟨fun h => Prod.ext h.1 h.2, fun h => by rw [h]; exact ⟨rfl, rfl⟩⟩
  | .sl _, _, _, h => by simp [Ty.flat] at h

theorem le_sum {α : Type} {f : α → Nat} : ∀ {l : List α} {x : α}, x ∈ l → f x ≤ (l.map f).sum
  | y :: l, x, h => by
    simp only [List.map_cons, List.sum_cons]
    rcases List.mem_cons.1 h with rfl | h
    · omega
    · have := le_sum (f := f) h; omega

theorem tot_mem {e : Ty} {l : List e.den} {x : e.den} (hx : x ∈ l) : tot e x ≤ tot (.sl e) l := by
  simp only [tot]
  have := le_sum (f := tot e) hx
  omega

theorem tot_len {e : Ty} {l : List e.den} : l.length ≤ tot (.sl e) l := by simp only [tot]; omega

end Vg

/- VG, part 52: loops that ask one thing of each place. -/
namespace Vg
open Go

/-- p at all places from a on, below n. -/
def allB (a n : Nat) (p : Nat → Bool) : Bool := (List.range' a (n - a)).all p

theorem allB_iff {a n : Nat} {p : Nat → Bool} : allB a n p = true ↔ ∀ i, a ≤ i → i < n → p i = true := by
  simp only [allB, List.all_eq_true, List.mem_range'_1]
  constructor
  · intro h i h1 h2; exact h i ⟨h1, by omega⟩
  · intro h i hi; exact h i hi.1 (by omega)

theorem allB_step {a n : Nat} {p : Nat → Bool} (h : a < n) : allB a n p = (p a && allB (a + 1) n p) := by
  unfold allB
  rw [show n - a = (n - (a + 1)) + 1 by omega, List.range'_succ]
  rfl

theorem allB_nil {a n : Nat} {p : Nat → Bool} (h : n ≤ a) : allB a n p = true := by
  unfold allB
  rw [show n - a = 0 by omega]
  rfl

theorem allB_congr {a n : Nat} {p q : Nat → Bool} (h : ∀ i, a ≤ i → i < n → p i = q i) : allB a n p = allB a n q := by
  rw [Bool.eq_iff_iff, allB_iff, allB_iff]
  exact ⟨fun H i h1 h2 => h i h1 h2 ▸ H i h1 h2, fun H i h1 h2 => (h i h1 h2).symm ▸ H i h1 h2⟩

theorem allB_and {a n : Nat} {p q : Nat → Bool} : allB a n (fun i => p i && q i) = (allB a n p && allB a n q) := by
  rw [Bool.eq_iff_iff, Bool.and_eq_true, allB_iff, allB_iff, allB_iff]
  simp only [Bool.and_eq_true]
  exact ⟨fun H => ⟨fun i h1 h2 => (H i h1 h2).1, fun i h1 h2 => (H i h1 h2).2⟩, fun H i h1 h2 => ⟨H.1 i h1 h2, H.2 i h1 h2⟩⟩

/-- No more places than m: asked of each place. -/
theorem allB_lt {n m : Nat} : allB 0 n (fun i => decide (i < m)) = decide (n ≤ m) := by
  rw [Bool.eq_iff_iff, allB_iff]
  simp only [decide_eq_true_eq]
  constructor
  · intro h
    rcases Nat.lt_or_ge m n with h1 | h1
    · have := h m (by omega) h1; omega
    · exact h1
  · intro h i _ h2; omega

/-- A loop that ends early where p fails. -/
theorem loop_all {σ ρ : Type} {f : (σ → Option ρ) → σ → Option ρ} (st : Nat → σ) (p : Nat → Bool) (n : Nat) {e no : Option ρ}
    (hstep : ∀ G i, i < n → f G (st i) = if p i = true then G (st (i + 1)) else no) (hend : ∀ G i, n ≤ i → f G (st i) = e) :
    ∀ (k a : Nat), n - a < k → loopN k f (st a) = if allB a n p = true then e else no
  | 0, _, h => by omega
  | k + 1, a, h => by
    show f (loopN k f) (st a) = _
    by_cases ha : a < n
    · rw [hstep _ a ha, allB_step ha, loop_all st p n hstep hend k (a + 1) (by omega)]
      cases p a <;> simp
    · rw [hend _ a (by omega), allB_nil (by omega), if_pos rfl]

/-- A loop that ends early where p holds. -/
theorem loop_any {σ ρ : Type} {f : (σ → Option ρ) → σ → Option ρ} (st : Nat → σ) (p : Nat → Bool) (n : Nat) {e yes : Option ρ}
    (hstep : ∀ G i, i < n → f G (st i) = if p i = true then yes else G (st (i + 1))) (hend : ∀ G i, n ≤ i → f G (st i) = e) (k a : Nat) (hk : n - a < k) :
    loopN k f (st a) = if allB a n (fun i => !p i) = true then e else yes :=
  loop_all st (fun i => !p i) n (fun G i hi => by rw [hstep G i hi]; cases p i <;> rfl) hend k a hk

/-- A loop that goes through all its states. -/
theorem loop_run {σ ρ : Type} {f : (σ → Option ρ) → σ → Option ρ} (st : Nat → σ) (n : Nat) {e : Option ρ} (hstep : ∀ G i, i < n → f G (st i) = G (st (i + 1))) (hend : ∀ G, f G (st n) = e) :
    ∀ (k a : Nat), a ≤ n → n - a < k → loopN k f (st a) = e
  | 0, _, _, h => by omega
  | k + 1, a, ha, h => by
    show f (loopN k f) (st a) = _
    by_cases hn : a = n
    · subst hn; exact hend _
    · rw [hstep _ a (by omega), loop_run st n hstep hend k (a + 1) (by omega) (by omega)]

theorem wrapS {i : Nat} (h : i < 4611686018427387904) : IntKind.i64.wrap ((i : Int) + 1) = ((i + 1 : Nat) : Int) := by
  rw [wrap64 (by omega) (by omega)]; rfl

theorem wrapP {i : Nat} (h : i < 4611686018427387904) : IntKind.i64.wrap ((i : Int) - 1) = (i : Int) - 1 := wrap64 (by omega) (by omega)

theorem in_nat {i n : Nat} (h : i < n) : (decide ((0 : Int) ≤ (i : Int) ∧ (i : Int) < (n : Int))) = true := by simp; omega

theorem lt_nat {i n : Nat} : (decide ((i : Int) < (n : Int))) = decide (i < n) := by simp

end Vg

/- VG, part 53: contracts of library functions, from what the shelf of contracts says of them. -/
namespace Vg
open Go Go.RowKit

theorem repL_str {w : World} : ∀ {l : List ByteArray} {cs : List Value} {B : List Nat}, RepL (Rep w .str) l cs B → cs = l.map Value.string
  | [], _, _, h => h.1
  | x :: l, cs, B, h => by
    obtain ⟨c1, c2, B1, B2, rfl, _, h1, h2⟩ := h
    rw [h1.1, repL_str h2]
    rfl

theorem map_at {l : List ByteArray} {j : Nat} {x : ByteArray} (h : l[j]? = some x) : (l.map Value.string)[j]? = some (.string x) := by rw [List.getElem?_map, h]; rfl

/-- A value result, no memory: what is left behind where nothing old has turned. -/
theorem post_below {ps : List PK} {τ : Ty} {F : TupD (ps.map PK.ty) → Option (TupD ([RK.val τ .leaf].map RK.ty ++ ioTys ps))} {w w' : World} {G0 : Gh} {args : List Value} {nt : Nat} {L : List SV} (hlot : Lot w G0 L args nt)
    (hio : ∀ x : TupD (ioTys ps), iosOf [2, 1] ps x (entBox ps 0 3) = fun _ => []) {y : TupD ([RK.val τ .leaf].map RK.ty ++ ioTys ps)} {mv : Value} (hb : Below w.heap.size w w')
    (hv : SOk w' G0 (.d ⟨τ, y.1, .leaf⟩) mv) : Post ⟨ps, [.val τ .leaf], F⟩ w G0 args y mv w' G0 [mv] nt where
  val := rfl
  len := rfl
  res i := by
    cases i with
    | zero => exact hv
    | succ i =>
      have : (scatter [RK.val τ .leaf] (ioTys ps) y (entNt ps 3) [2, 1]).1.getD (i + 1) .no = .no := by
        show ([SV.d ⟨τ, y.1, Sh.leaf⟩]).getD (i + 1) .no = .no
        rfl
      rw [this]
      trivial
  ios t i v h := by rw [hio] at h; cases h
  frame b hbs _ := ⟨rfl, hb.block b hbs⟩
  one b h := ⟨(hlot.colU b (by omega)).2, h⟩
  size := hb.size
  os := hb.os
  tape := hb.tape
  output := hb.output
  lt b h := Nat.lt_of_lt_of_le (hlot.colU b h).2 hb.size
  fresh b h := by rw [hb.block b (hlot.colU b (by omega)).2]; exact hlot.fresh b h

theorem upon_calls {P : Program} {f : FuncId} {fn : Func} (hf : P.funcs[f]? = some fn) (hname : (fn.name == "runtime.NumGoroutine") = false) (hb : fn.body.isSome = true) {w : World} {args : Array Value} {R : Value → World → Prop}
    (h : Calls P f args w (fun e w' => ∃ v, e = .returned v ∧ R v w')) : Upon P f args w R := by
  obtain ⟨c, hc⟩ := Option.isSome_iff_exists.1 hb
  have hrun : (callFunc f args).run P w = .ok (.enter f args) w := by
    have hne : fn.name ≠ "runtime.NumGoroutine" := by simpa using hname
    unfold callFunc
    simp [hf, hne, hc]
  unfold Upon
  rw [hrun]
  exact h

def joinL (l : List ByteArray) (sep : ByteArray) : List UInt8 := Lib.join (l.map (·.data.toList)) sep.data.toList

/-- strings.Join. -/
def joinF (x : List ByteArray × ByteArray × Unit) : Option (ByteArray × Unit) :=
  if x.1.length ≤ 140737488355328 ∧ (joinL x.1 x.2.1).length ≤ 140737488355328 then some (⟨(joinL x.1 x.2.1).toArray⟩, ()) else none

theorem meets_join {P : Program} {f : FuncId} {fn : Func} (hf : P.funcs[f]? = some fn) (hname : (fn.name == "runtime.NumGoroutine") = false) (hb : fn.body.isSome = true)
    (h0 : ∀ (a : Option Addr) (c : Nat) (sep : ByteArray) (w : World), Calls P f #[.slice a 0 c, .string sep] w fun e w' => e = .returned (.string ⟨#[]⟩) ∧ w' = w)
    (h1 : ∀ (bk o c : Nat) (xs : List ByteArray) (sep : ByteArray) (w : World), (∀ (j : Nat) x, xs[j]? = some x → w.cell? ⟨bk, o + j, none⟩ = some (.string x)) → bk < w.heap.size → xs.length ≤ 140737488355328 → xs.length ≤ c →
      (Lib.join (xs.map (·.data.toList)) sep.data.toList).length ≤ 140737488355328 →
      Calls P f #[.slice (some ⟨bk, o, none⟩) xs.length c, .string sep] w fun e w' => e = .returned (.string ⟨(Lib.join (xs.map (·.data.toList)) sep.data.toList).toArray⟩) ∧ Below w.heap.size w w') :
    Meets P f ⟨[.val (.sl .str) .shr, .val .str .leaf], [.val .str .leaf], joinF⟩ := by
  intro w G0 args x y hy hlot
  obtain ⟨l, sep, u⟩ := x
  have hlen : args.length = 2 := hlot.len
  obtain ⟨v0, v1, rfl⟩ : ∃ v0 v1, args = [v0, v1] := by
    match args, hlen with
    | [a, b], _ => exact ⟨a, b, rfl⟩
  have s0 : SOk w G0 (.d ⟨.sl .str, l, .sl (.sha [1])⟩) v0 := hlot.slots 0
  have s1 : SOk w G0 (.d ⟨.str, sep, .leaf⟩) v1 := hlot.slots 1
  obtain ⟨cs1, e1, q1⟩ := s1
  have q1' : cs1 = [.string sep] := q1
  subst q1'
  have e1' : v1 = .string sep := e1
  subst e1'
  obtain ⟨cs0, e0, v, rfl, hrow⟩ := s0
  have e0' : v0 = v := e0
  subst e0'
  have hy : joinF (l, sep, u) = some y := hy
  unfold joinF at hy
  split at hy
  · rename_i hc
    have hy' := Option.some.inj hy
    subst hy'
    refine upon_calls hf hname hb ?_
    obtain ⟨⟨B, hrep, _⟩, _⟩ := hrow
    have fin : ∀ w', Below w.heap.size w w' → ∃ G' vs nt, Post ⟨[.val (.sl .str) .shr, .val .str .leaf], [.val .str .leaf], joinF⟩ w G0 [v0, .string sep] (⟨(joinL l sep).toArray⟩, ()) (.string ⟨(joinL l sep).toArray⟩) w' G' vs nt :=
      fun w' hbl => ⟨G0, _, _, post_below (ps := [.val (.sl .str) .shr, .val .str .leaf]) (τ := .str) (F := joinF) (y := (⟨(joinL l sep).toArray⟩, ())) hlot (fun _ => by funext n; rfl) hbl ⟨[.string ⟨(joinL l sep).toArray⟩], rfl, rfl⟩⟩
    rcases hrep with ⟨⟨ao, rfl⟩, rfl, _⟩ | ⟨b, off, cap, c, el, fz, Bs, rfl, hcap, hbk, hsz, _, hl⟩
    · refine (h0 ao 0 sep w).mono fun e w' ⟨he, hw⟩ => ⟨_, he, ?_⟩
      subst hw
      exact fin _ (Below.refl _ _)
    · have hcs := repL_str hl
      refine (h1 b off cap l sep w (fun j x hj => ?_) (lt_of_block hbk) hc.1 hcap hc.2).mono fun e w' ⟨he, hw⟩ => ⟨_, he, fin _ hw⟩
      unfold World.cell?
      simp only [hbk, Option.isSome_none, Bool.false_eq_true, if_false]
      have hjl : j < l.length := (List.getElem?_eq_some_iff.1 hj).1
      have h2 := map_at (l := l) hj
      rw [← hcs] at h2
      simp only [List.getElem?_take, List.getElem?_drop, Ty.sz, Nat.mul_one, hjl, if_true, Array.getElem?_toList] at h2
      exact h2
  · cases hy

end Vg

/- VG, part 68: loops that copy. -/
namespace Vg
open Go

theorem beq_dec (a b : Int) : (a == b) = decide (a = b) := rfl
theorem bne_dec (a b : Int) : (a != b) = !decide (a = b) := rfl

theorem tbf : (true == false) = false := rfl
theorem fbt : (false == true) = false := rfl

theorem take_getD {α : Type} {l : List α} {i : Nat} (d : α) (h : i < l.length) : l.take (i + 1) = l.take i ++ [l.getD i d] := by
  rw [List.take_succ_eq_append_getElem h, List.getD_eq_getElem?_getD, List.getElem?_eq_getElem h]; rfl

theorem filter_one {α : Type} (p : α → Bool) (a : α) : [a].filter p = if p a = true then [a] else [] := by
  cases h : p a <;> simp [List.filter, h]

theorem map_take {α β : Type} {f : α → β} {l : List α} {i : Nat} (d : α) (h : i < l.length) : (l.take (i + 1)).map f = (l.take i).map f ++ [f (l.getD i d)] := by
  rw [take_getD d h, List.map_append]; rfl

def cpS {α β : Type} (k : Nat) (d : α) (S : α × Unit → Option (β × Unit)) (x : List α × Unit) : Option (List β × Unit) :=
  loopN k (fun G1 (t2 : List α × List β × Int × Unit) =>
    if (decide ((t2.2.2.1 : Int) < ((List.length t2.1 : Nat) : Int))) = true then
      if (decide (0 ≤ t2.2.2.1 ∧ t2.2.2.1 < ((List.length t2.1 : Nat) : Int))) = true then
        Option.bind (S (List.getD t2.1 (Int.toNat t2.2.2.1) d, ())) fun (r3 : β × Unit) =>
        if (decide (List.length t2.2.1 + List.length ([r3.1] : List β) < 4294967296)) = true then
          G1 (t2.1, t2.2.1 ++ ([r3.1] : List β), IntKind.i64.wrap (t2.2.2.1 + (1 : Int)), ())
        else
          none
      else
        none
    else
      some (t2.2.1, ())) (x.1, ([] : List β), (0 : Int), ())

theorem cpS_ok {α β : Type} {k : Nat} {d : α} {S : α × Unit → Option (β × Unit)} (f : α → β) {l : List α} (hk : 9223372036854775808 ≤ k) (hl : l.length ≤ 1073741824) (hS : ∀ e ∈ l, S (e, ()) = some (f e, ())) : cpS k d S (l, ()) = some (l.map f, ()) := by
  unfold cpS
  refine loop_run (fun i => (l, (l.take i).map f, (i : Int), ())) l.length (fun G i hi => ?_) (fun G => ?_) k 0 (by omega) (by omega)
  · simp only [lt_nat, in_nat hi, hi, decide_true, if_true, Int.toNat_natCast]
    rw [hS _ (getD_mem hi), Option.bind_some, if_pos (by simp; omega), wrapS (by omega), map_take d hi]
  · simp

def cpR {α β : Type} (k : Nat) (d : α) (S : α × Unit → Option (β × Unit)) (x : List α × Unit) : Option (List β × Unit) :=
  loopN k (fun G1 (t2 : List β × List α × Int × Int × Unit) =>
    if (decide ((t2.2.2.2.1 : Int) < t2.2.2.1)) = true then
      if (decide (0 ≤ t2.2.2.2.1 ∧ t2.2.2.2.1 < ((List.length t2.2.1 : Nat) : Int))) = true then
        Option.bind (S (List.getD t2.2.1 (Int.toNat t2.2.2.2.1) d, ())) fun (r3 : β × Unit) =>
        if (decide (List.length t2.1 + List.length ([r3.1] : List β) < 4294967296)) = true then
          G1 (t2.1 ++ ([r3.1] : List β), t2.2.1, t2.2.2.1, IntKind.i64.wrap (t2.2.2.2.1 + (1 : Int)), ())
        else
          none
      else
        none
    else
      some (t2.1, ())) (([] : List β), x.1, ((List.length x.1 : Nat) : Int), (0 : Int), ())

theorem cpR_ok {α β : Type} {k : Nat} {d : α} {S : α × Unit → Option (β × Unit)} (f : α → β) {l : List α} (hk : 9223372036854775808 ≤ k) (hl : l.length ≤ 1073741824) (hS : ∀ e ∈ l, S (e, ()) = some (f e, ())) : cpR k d S (l, ()) = some (l.map f, ()) := by
  unfold cpR
  refine loop_run (fun i => ((l.take i).map f, l, (l.length : Int), (i : Int), ())) l.length (fun G i hi => ?_) (fun G => ?_) k 0 (by omega) (by omega)
  · simp only [lt_nat, in_nat hi, hi, decide_true, if_true, Int.toNat_natCast]
    rw [hS _ (getD_mem hi), Option.bind_some, if_pos (by simp; omega), wrapS (by omega), map_take d hi]
  · simp

theorem cpS_id {α : Type} {k : Nat} {d : α} {S : α × Unit → Option (α × Unit)} {l : List α} (hk : 9223372036854775808 ≤ k) (hl : l.length ≤ 1073741824) (hS : ∀ e ∈ l, S (e, ()) = some (e, ())) : cpS k d S (l, ()) = some (l, ()) := by
  have := cpS_ok (d := d) (fun e => e) hk hl hS
  rwa [List.map_id'] at this

theorem cpR_id {α : Type} {k : Nat} {d : α} {S : α × Unit → Option (α × Unit)} {l : List α} (hk : 9223372036854775808 ≤ k) (hl : l.length ≤ 1073741824) (hS : ∀ e ∈ l, S (e, ()) = some (e, ())) : cpR k d S (l, ()) = some (l, ()) := by
  have := cpR_ok (d := d) (fun e => e) hk hl hS
  rwa [List.map_id'] at this

theorem tot_filter {e : Ty} (p : e.den → Bool) : ∀ (l : List e.den), tot (.sl e) (l.filter p) ≤ tot (.sl e) l
  | [] => Nat.le_refl _
  | x :: l => by
    have := tot_filter p l
    by_cases h : p x = true
    · rw [List.filter_cons_of_pos h]; simp only [tot, List.length_cons, List.map_cons, List.sum_cons] at this ⊢; omega
    · rw [List.filter_cons_of_neg h]; simp only [tot, List.length_cons, List.map_cons, List.sum_cons] at this ⊢; omega

theorem tot_app {e : Ty} (l m : List e.den) : tot (.sl e) (l ++ m) = tot (.sl e) l + tot (.sl e) m := by
  simp only [tot, List.length_append, List.map_append, List.sum_append]; omega

theorem tot_cons {e : Ty} (x : e.den) (l : List e.den) : tot (.sl e) (x :: l) = 1 + tot e x + tot (.sl e) l := by
  simp only [tot, List.length_cons, List.map_cons, List.sum_cons]; omega

theorem tot_nil {e : Ty} : tot (.sl e) ([] : List e.den) = 0 := by simp [tot]

theorem tot_set {e : Ty} : ∀ (l : List e.den) (i : Nat) (x : e.den), i < l.length → tot (.sl e) (l.set i x) + tot e (l.getD i e.dflt) = tot (.sl e) l + tot e x
  | [], i, x, h => by simp at h
  | y :: l, 0, x, h => by rw [List.set_cons_zero, tot_cons, tot_cons]; simp; omega
  | y :: l, i + 1, x, h => by
    have := tot_set l i x (by simpa using h)
    rw [List.set_cons_succ, tot_cons, tot_cons, List.getD_cons_succ]
    omega

theorem tot_take {e : Ty} (l : List e.den) (i : Nat) : tot (.sl e) (l.take i) + tot (.sl e) (l.drop i) = tot (.sl e) l := by
  rw [← tot_app, List.take_append_drop]

/-- The first place of which p holds. -/
def idxB (n : Nat) (p : Nat → Bool) : Option Nat := (List.range n).find? p

def posI : Option Nat → Int
  | some i => (i : Int)
  | none => -1

theorem idxB_some {n : Nat} {p : Nat → Bool} {i : Nat} : idxB n p = some i ↔ i < n ∧ p i = true ∧ ∀ j, j < i → p j = false := by
  unfold idxB
  rw [List.find?_range_eq_some]
  constructor
  · rintro ⟨h1, h2, h3⟩
    exact ⟨List.mem_range.1 h2, h1, fun j hj => by simpa using h3 j hj⟩
  · rintro ⟨h1, h2, h3⟩
    exact ⟨h2, List.mem_range.2 h1, fun j hj => by simpa using h3 j hj⟩

theorem idxB_none {n : Nat} {p : Nat → Bool} : idxB n p = none ↔ ∀ i, i < n → p i = false := by
  unfold idxB
  rw [List.find?_range_eq_none]
  constructor
  · intro h i hi; simpa using h i hi
  · intro h i hi; simpa using h i hi

theorem idxB_congr {n : Nat} {p q : Nat → Bool} (h : ∀ i, i < n → p i = q i) : idxB n p = idxB n q := by
  cases hq : idxB n q with
  | none => rw [idxB_none] at hq ⊢; exact fun i hi => (h i hi).trans (hq i hi)
  | some i =>
    rw [idxB_some] at hq ⊢
    exact ⟨hq.1, (h i hq.1).trans hq.2.1, fun j hj => (h j (by omega)).trans (hq.2.2 j hj)⟩

theorem posI_neg {o : Option Nat} : posI o < 0 ↔ o = none := by
  cases o with
  | none => simp [posI]
  | some i => simp [posI]

/-- A loop that ends at the first place of which p holds. -/
theorem loop_find {σ ρ : Type} {f : (σ → Option ρ) → σ → Option ρ} (st : Nat → σ) (p : Nat → Bool) (n : Nat) {e : Option ρ} (hit : Nat → Option ρ)
    (hstep : ∀ G i, i < n → f G (st i) = if p i = true then hit i else G (st (i + 1))) (hend : ∀ G, f G (st n) = e) (k : Nat) (hk : n < k) :
    loopN k f (st 0) = match idxB n p with | some i => hit i | none => e := by
  have key : ∀ (k a : Nat), a ≤ n → n - a < k → (∀ j, j < a → p j = false) → loopN k f (st a) = match idxB n p with | some i => hit i | none => e := by
    intro k
    induction k with
    | zero => intro a _ h; omega
    | succ k ih =>
      intro a ha h hp
      show f (loopN k f) (st a) = _
      by_cases hn : a = n
      · subst hn
        rw [hend, (idxB_none (n := a) (p := p)).2 hp]
      · rw [hstep _ a (by omega)]
        cases hpa : p a with
        | true => rw [if_pos rfl, (idxB_some (i := a)).2 ⟨by omega, hpa, hp⟩]
        | false =>
          rw [if_neg (by simp), ih (a + 1) (by omega) (by omega) (fun j hj => by
            rcases Nat.lt_or_ge j a with h | h
            · exact hp j h
            · obtain rfl : j = a := by omega
              exact hpa)]
  exact key k 0 (by omega) (by omega) (by omega)

end Vg

/- VG, part 71: alarms put in order by their labels. -/
namespace Vg
open Go

def lessB (a b : ByteArray) : Bool := Op.bytesLess a.toList b.toList

/-- Labels, place by place. -/
def setLess : List (ByteArray × ByteArray) → List (ByteArray × ByteArray) → Bool
  | [], b => !b.isEmpty
  | _ :: _, [] => false
  | a :: l, b :: m => if a.1.toList == b.1.toList then (if a.2.toList == b.2.toList then setLess l m else lessB a.2 b.2) else lessB a.1 b.1

/-- Behind all that it is not less than: from the end on. -/
def insRev {α : Type} (lt : α → α → Bool) (x : α) : List α → List α
  | [] => [x]
  | y :: r => if lt x y = true then y :: insRev lt x r else x :: y :: r

def sortBy {α : Type} (lt : α → α → Bool) (l : List α) : List α := (l.foldl (fun r x => insRev lt x r) []).reverse

abbrev lessA (a b : List (ByteArray × ByteArray) × Int × Int × ByteArray) : Bool := setLess a.1 b.1
def sortL (l : List (List (ByteArray × ByteArray) × Int × Int × ByteArray)) : List (List (ByteArray × ByteArray) × Int × Int × ByteArray) := sortBy lessA l

end Vg

/- VG, part 54: sort.SliceStable at fewer than 20 elements of several cells: the insertion sort. -/

namespace Go.Proofs
open Go.Shelf Go.RowKit Go.Lib Go.Sort
variable {P : Program} {ρ : Ren} {α : Type} [Inhabited α]

set_option maxHeartbeats 1600000 in
set_option maxRecDepth 100000 in
theorem vgStable_few (L : LaysGt.n15 P ρ) {enc : α → List Value} {k : Nat} (hk : ∀ x, (enc x).length = k) (lt : α → α → Bool) {g : Nat} {lb : Array Value} {sf : Nat} {sb : Array Value} {blk off : Nat} {d : Array α} {W : World}
    (eg : ∀ args w, (callFunc g args).run P w = .ok (.enter g args) w) (hless : LessReadsK P g lb enc k lt blk off d.size W) (hswap : SwapSwapsK P sf sb enc k blk off d.size)
    (hH : HoldsK enc k W blk off d) (hblk : blk < W.heap.size) (h20 : d.size < 20) :
    Calls P (ρ.f 15) #[.agg #[.func (.func g) #[] lb, .func (.func sf) #[] sb], .int .i64 d.size] W fun e w' => e = .returned (.tuple #[]) ∧ ∃ n os, w' = sortWorldK enc k W blk off n (Sort.insertionSort lt d 0 d.size) os := by
  have mixed := L.mixed; have t0 := L.t0; have a0 := L.a0; have z0 := L.z0; have v0 := L.v0; have t3 := L.t3; have a3 := L.a3; have z3 := L.z3; have v3 := L.v3; have t4 := L.t4; have a4 := L.a4; have z4 := L.z4; have v4 := L.v4; have t26 := L.t26; have a26 := L.a26; have z26 := L.z26; have v26 := L.v26; have t38 := L.t38; have a38 := L.a38; have z38 := L.z38; have v38 := L.v38; have t42 := L.t42; have a42 := L.a42; have z42 := L.z42; have v42 := L.v42; have t47 := L.t47; have a47 := L.a47; have z47 := L.z47; have v47 := L.v47
  have u42 := run_underlying L.t42
  have e29 : ∀ args w, (callFunc (ρ.f 29) args).run P w = .ok (.enter (ρ.f 29) args) w := enters_of L.f29 (by kernel_rfl) rfl
  have LI : LaysGg.n26 P ρ.viaGt := ({ L with } : LaysGt.n29 P ρ).elder
  have hS := (SWK.start hH).alloc (.cells #[.func (.func g) #[] lb, .func (.func sf) #[] sb] (ρ.t 42))
  have hc : Calls P (ρ.f 29) #[.agg #[.func (.func g) #[] lb, .func (.func sf) #[] sb], .int .i64 (0 : Nat), .int .i64 d.size] (W.alloc (.cells #[.func (.func g) #[] lb, .func (.func sf) #[] sb] (ρ.t 42))) fun e w' => e = .returned (.tuple #[]) ∧ ∃ n os, w' = sortWorldK enc k (W.alloc (.cells #[.func (.func g) #[] lb, .func (.func sf) #[] sb] (ρ.t 42))) blk off n (Sort.insertionSort lt d 0 d.size) os :=
    Any.insertionSort_func_cells_w LI enc k hk lt g lb sf sb blk off 0 d.size d _ eg (hS.lessReads hless hblk rfl) hswap (hS.holds hblk hH rfl) (hS.lt hblk) (Nat.zero_le _) (Nat.le_refl _) (by omega)
  clear hless hswap hH hS
  go_enter L.f15, BodyGt.n15_ntmps ρ
  go_wp2
  refine wp_loop_rounds 1 ?_
  rw [rounds_succ]
  go_wp2_with (go_at_fn (ρ.f 29); refine hc.mono ?_; rintro e w1 ⟨rfl, n, os, rfl⟩)
  refine wp_loop_rounds 1 ?_
  rw [rounds_succ]
  go_wp2
  all_goals first | (exfalso; omega) | (go_end0; exact ⟨rfl, n, _, by unfold sortWorldK; rw [alloc_eq_grow, ahead_grow, putRowK_grow enc k (Sort.ahead W n) _ blk off _ hblk, grow_grow]⟩)

theorem vgSliceStable_few (L : LaysGt.n8 P ρ) {t e : TypeId} {i ie : TypeInfo} (hi : P.info? t = some i) (hd : i.desc = .slice e) (hpk : P.packed t = false) (hie : P.info? e = some ie) {ke : Nat} (hke : ∀ w, (Extern.Rtype.kind e).run P w = .ok ke w)
    {enc : α → List Value} {k : Nat} (hk : ∀ x, (enc x).length = k) (hs1 : ie.size = k) (hagg : ∀ w, (isAgg e).run P w = .ok true w) (h1 : ∀ x, ∀ v ∈ enc x, v.oneCell' = true) (lt : α → α → Bool) {g : Nat} {lb : Array Value}
    (eg : ∀ args w, (callFunc g args).run P w = .ok (.enter g args) w) {blk off c : Nat} {d : Array α} (h2 : 2 ≤ d.size) (h20 : d.size < 20)
    {f : Nat} (hf : P.funcs.findIdx? (·.name == "internal/reflectlite" ++ ".Swapper$" ++ toString (swapperK d.size ie ke)) = some f)
    (gS : Bool) (hx : ∀ args W, (callFunc f args).run P W = ((Extern.ReflectliteSwapper.swap gS args).run P W).andThen fun v w' => .ok (.value v) w')
    {w : World} (hless : LessReadsK P g lb enc k lt blk off d.size w) (hH : HoldsK enc k w blk off d) (hblk : blk < w.heap.size) :
    Calls P (ρ.f 8) #[.iface t (.slice (some ⟨blk, off, none⟩) d.size c), .func (.func g) #[] lb] w fun e w' =>
      e = .returned (.tuple #[]) ∧ ∃ n os, w' = grow (putRowK enc k (Sort.ahead w n) blk off (Sort.insertionSort lt d 0 d.size)) os := by
  refine Any.sort_SliceStable_of_stable L t e i ie hi hd hpk hie ke hke _ d.size c (by omega) f hf (.func g) #[] lb w _ ?_
  have hB : sliceBound P e ie ke (some ⟨blk, off, none⟩) d.size c = #[.slice (some ⟨blk, off, none⟩) d.size c, typeHandle P e] := by
    unfold sliceBound; rw [if_neg (swapperK_gt _ _ _ h2)]
  obtain ⟨os0, hW⟩ : ∃ os0, stableWorld P ρ t (some ⟨blk, off, none⟩) d.size c w = grow w os0 :=
    ⟨_, by unfold stableWorld; rw [alloc_eq_grow, alloc_eq_grow, grow_grow]⟩
  rw [hB, hW]
  refine (vgStable_few (P := P) (ρ := ρ) { L with } hk lt (d := d) eg (hless.grow hblk os0)
    (swapSwapsK_of_literal gS f hx e ie hie enc k hk hs1 hagg h1 blk off d.size c) (holdsK_grow enc k w _ blk off d hblk hH) (by rw [size_grow]; omega) h20).mono ?_
  rintro e w' ⟨rfl, n, os, rfl⟩
  exact ⟨rfl, n, _, by unfold sortWorldK; rw [ahead_grow, putRowK_grow enc k (Sort.ahead w n) _ blk off _ hblk, grow_grow]⟩

/-- What is asked of elements: labels that lie elsewhere. -/
def VgLabAt {α : Type} (enc : α → List Value) (lab : α → List (ByteArray × ByteArray)) (blk : Nat) (w : World) : Prop :=
  ∀ x : α, ∃ p c, (enc x)[0]? = some (.slice p (lab x).length c) ∧ (lab x).length < 4611686018427387904 ∧
    ∀ i, i < (lab x).length → ∃ bk o, p = some ⟨bk, o, none⟩ ∧ bk ≠ blk ∧ bk < w.heap.size ∧ w.cell? ⟨bk, o + i * 2, none⟩ = some (.string ((lab x).getD i (ByteArray.empty, ByteArray.empty)).1) ∧
      w.cell? ⟨bk, o + i * 2 + 1, none⟩ = some (.string ((lab x).getD i (ByteArray.empty, ByteArray.empty)).2)

end Go.Proofs

/- VG, part 72: a row put in order in place: what a function leaves behind that sorts what it is handed. -/
namespace Vg
open Go Go.RowKit

section
variable {α : Type}

theorem insRev_perm (lt : α → α → Bool) (x : α) : ∀ r : List α, (insRev lt x r).Perm (x :: r)
  | [] => List.Perm.refl _
  | y :: r => by
    unfold insRev
    split
    · exact ((insRev_perm lt x r).cons y).trans (List.Perm.swap x y r)
    · exact List.Perm.refl _

theorem sortFold_perm (lt : α → α → Bool) : ∀ (l r : List α), (l.foldl (fun r x => insRev lt x r) r).Perm (l ++ r)
  | [], r => List.Perm.refl _
  | x :: l, r => by
    rw [List.foldl_cons]
    exact (sortFold_perm lt l _).trans ((List.Perm.append_left l (insRev_perm lt x r)).trans (List.perm_middle))

theorem sortBy_perm (lt : α → α → Bool) (l : List α) : (sortBy lt l).Perm l := by
  unfold sortBy
  refine (List.reverse_perm _).trans ?_
  have := sortFold_perm lt l []
  rwa [List.append_nil] at this

theorem insRev_map {β : Type} {lt : α → α → Bool} {lt' : β → β → Bool} (f : α → β) (h : ∀ x y, lt x y = lt' (f x) (f y)) (x : α) : ∀ r : List α, (insRev lt x r).map f = insRev lt' (f x) (r.map f)
  | [] => rfl
  | y :: r => by
    simp only [insRev, List.map_cons, h]
    split <;> simp [insRev_map f h x r]

theorem sortFold_map {β : Type} {lt : α → α → Bool} {lt' : β → β → Bool} (f : α → β) (h : ∀ x y, lt x y = lt' (f x) (f y)) : ∀ (l r : List α), (l.foldl (fun r x => insRev lt x r) r).map f = (l.map f).foldl (fun r x => insRev lt' x r) (r.map f)
  | [], r => rfl
  | x :: l, r => by
    rw [List.foldl_cons, List.map_cons, List.foldl_cons, sortFold_map f h l, insRev_map f h]

theorem sortBy_map {β : Type} {lt : α → α → Bool} {lt' : β → β → Bool} (f : α → β) (h : ∀ x y, lt x y = lt' (f x) (f y)) (l : List α) : (sortBy lt l).map f = sortBy lt' (l.map f) := by
  unfold sortBy
  rw [List.map_reverse, sortFold_map f h]
  rfl

variable [Inhabited α]

theorem ins_inner (lt : α → α → Bool) : ∀ (j : Nat) (p : List α) (x : α) (r : List α), p.length = j → Go.Sort.insInner lt 0 j (p ++ x :: r).toArray = ((insRev lt x p.reverse).reverse ++ r).toArray
  | 0, p, x, r, h => by
    have : p = [] := List.length_eq_zero_iff.1 h
    subst this
    rfl
  | j + 1, p, x, r, h => by
    obtain ⟨q, y, rfl⟩ : ∃ q y, p = q ++ [y] := ⟨p.dropLast, p.getLast (by intro e; rw [e] at h; cases h), (List.dropLast_concat_getLast _).symm⟩
    have hq : q.length = j := by simpa using h
    have e1 : (q ++ [y] ++ x :: r).toArray[j + 1]! = x := by simp [← hq]
    have e0 : (q ++ [y] ++ x :: r).toArray[j]! = y := by simp [← hq]
    unfold Go.Sort.insInner
    rw [e1, e0]
    by_cases hl : lt x y = true
    · rw [if_pos (by simp [hl])]
      have e2 : Go.Sort.swp (q ++ [y] ++ x :: r).toArray (j + 1) j = (q ++ x :: (y :: r)).toArray := by
        unfold Go.Sort.swp
        rw [e1, e0]
        apply Array.ext'
        simp [← hq]
      rw [e2, ins_inner lt j q x (y :: r) hq, List.reverse_append, List.reverse_singleton, List.singleton_append]
      simp [insRev, hl]
    · rw [if_neg (by simp [hl]), List.reverse_append, List.reverse_singleton, List.singleton_append]
      simp [insRev, hl]

theorem ins_outer (lt : α → α → Bool) (l : List α) : ∀ (m i : Nat), i + m = l.length → Go.Sort.insOuter lt 0 l.length i (sortBy lt (l.take i) ++ l.drop i).toArray = (sortBy lt l).toArray
  | 0, i, h => by
    unfold Go.Sort.insOuter
    rw [if_neg (by omega), List.drop_eq_nil_of_le (by omega), List.take_of_length_le (by omega), List.append_nil]
  | m + 1, i, h => by
    have hi : i < l.length := by omega
    unfold Go.Sort.insOuter
    rw [if_pos hi, List.drop_eq_getElem_cons hi]
    have hlen : (sortBy lt (l.take i)).length = i := by rw [(sortBy_perm lt (l.take i)).length_eq, List.length_take]; omega
    rw [ins_inner lt i _ _ _ hlen]
    have : (insRev lt l[i] (sortBy lt (l.take i)).reverse).reverse = sortBy lt (l.take (i + 1)) := by
      unfold sortBy
      rw [List.reverse_reverse, List.take_succ_eq_append_getElem hi, List.foldl_append]
      rfl
    rw [this]
    exact ins_outer lt l m (i + 1) (by omega)

theorem ins_sort (lt : α → α → Bool) (l : List α) (h : 1 ≤ l.length) : Go.Sort.insertionSort lt l.toArray 0 l.toArray.size = (sortBy lt l).toArray := by
  unfold Go.Sort.insertionSort
  have := ins_outer lt l (l.length - 1) 1 (by omega)
  have e : sortBy lt (l.take 1) ++ l.drop 1 = l := by
    cases l with
    | nil => cases h
    | cons x l => rfl
  rw [e] at this
  simpa using this

theorem flat_at {enc : α → List Value} {k : Nat} (hk : ∀ x, (enc x).length = k) (h0 : 0 < k) : ∀ (L : List α) (t : Nat), t < L.length * k → (L.flatMap enc)[t]? = some ((enc L[t / k]!)[t % k]!)
  | [], t, h => by simp at h
  | x :: L, t, h => by
    rw [List.flatMap_cons]
    by_cases ht : t < k
    · rw [List.getElem?_append_left (by rw [hk]; exact ht), Nat.div_eq_of_lt ht, Nat.mod_eq_of_lt ht]
      have : t < (enc x).length := by rw [hk]; exact ht
      simp [this]
    · rw [List.getElem?_append_right (by rw [hk]; omega), hk, flat_at hk h0 L (t - k) (by simp only [List.length_cons, Nat.add_mul, Nat.one_mul] at h; omega)]
      have e1 : t / k = (t - k) / k + 1 := by rw [Nat.div_eq_sub_div h0 (by omega)]
      have e2 : t % k = (t - k) % k := by rw [Nat.mod_eq_sub_mod (by omega)]
      rw [e1, e2]
      rfl

theorem flatK_list {enc : α → List Value} {k : Nat} (hk : ∀ x, (enc x).length = k) (h0 : 0 < k) (L : List α) : (Go.Sort.flatK enc k L.toArray).toList = L.flatMap enc := by
  have hl : (L.flatMap enc).length = L.length * k := by
    induction L with
    | nil => simp
    | cons x L ih => rw [List.flatMap_cons, List.length_append, ih, hk, List.length_cons, Nat.add_mul, Nat.one_mul, Nat.add_comm]
  apply List.ext_getElem?
  intro t
  by_cases ht : t < L.length * k
  · rw [flat_at hk h0 L t ht]
    have h2 : t < (Go.Sort.flatK enc k L.toArray).size := by simpa using ht
    have h3 := Go.Sort.get_flatK enc k L.toArray t (by simpa using ht)
    rw [getElem!_pos _ t h2] at h3
    rw [Array.getElem?_toList, Array.getElem?_eq_getElem h2, h3]
    simp
  · rw [List.getElem?_eq_none (by simp; omega), List.getElem?_eq_none (by rw [hl]; omega)]
end

/-- Elements, their cells, their blocks. -/
theorem repL_parts {β : Type} {R : β → List Value → List Nat → Prop} : ∀ {l : List β} {cs : List Value} {B : List Nat}, RepL R l cs B →
    ∃ L : List (β × List Value × List Nat), (∀ x ∈ L, R x.1 x.2.1 x.2.2) ∧ l = L.map (·.1) ∧ cs = L.flatMap (·.2.1) ∧ B = L.flatMap (·.2.2)
  | [], _, _, h => ⟨[], by simp, rfl, h.1, h.2⟩
  | x :: l, cs, B, h => by
    obtain ⟨c1, c2, B1, B2, rfl, rfl, h1, h2⟩ := h
    obtain ⟨L, a1, rfl, rfl, rfl⟩ := repL_parts h2
    exact ⟨(x, c1, B1) :: L, (fun y hy => by rcases List.mem_cons.1 hy with rfl | hy; exact h1; exact a1 y hy), rfl, rfl, rfl⟩

theorem parts_repL {β : Type} {R : β → List Value → List Nat → Prop} : ∀ (L : List (β × List Value × List Nat)), (∀ x ∈ L, R x.1 x.2.1 x.2.2) → RepL R (L.map (·.1)) (L.flatMap (·.2.1)) (L.flatMap (·.2.2))
  | [], _ => ⟨rfl, rfl⟩
  | x :: L, h => ⟨x.2.1, _, x.2.2, _, rfl, rfl, h x (by simp), parts_repL L (fun y hy => h y (by simp [hy]))⟩

theorem repL_lab {w : World} : ∀ {l : List (ByteArray × ByteArray)} {cs : List Value} {B : List Nat}, RepL (Rep w (.pair .str .str)) l cs B → B = [] ∧ ∀ i, i < l.length → cs[i * 2]? = some (.string (l.getD i (ByteArray.empty, ByteArray.empty)).1) ∧ cs[i * 2 + 1]? = some (.string (l.getD i (ByteArray.empty, ByteArray.empty)).2)
  | [], _, _, h => ⟨h.2, fun i hi => by simp at hi⟩
  | x :: l, cs, B, h => by
    obtain ⟨c1, c2, B1, B2, rfl, rfl, ⟨d1, d2, C1, C2, rfl, rfl, ⟨rfl, rfl⟩, ⟨rfl, rfl⟩⟩, h2⟩ := h
    obtain ⟨e, q⟩ := repL_lab h2
    refine ⟨by rw [e]; rfl, fun i hi => ?_⟩
    cases i with
    | zero => exact ⟨rfl, rfl⟩
    | succ i =>
      obtain ⟨q1, q2⟩ := q i (by simpa using hi)
      have e1 : (i + 1) * 2 = i * 2 + 1 + 1 := by omega
      rw [e1]
      simp only [List.singleton_append, List.cons_append, List.nil_append, List.getElem?_cons_succ, List.getD_cons_succ]
      exact ⟨q1, q2⟩

/-- A row of own, put in another order in place: what is left behind. -/
theorem post_sorted {e : Ty} {F : TupD [.sl e] → Option (TupD [.sl e])} {w w' : World} {G0 : Gh} {v : Value} {l l' : List e.den}
    (hlot : Lot w G0 (env0 [.val (.sl e) .own] (l, ()) 3).1 [v] 4) {B B' : List Nat} (hB : RepS w e.sz (Rep w e) l v B) (hBo : ∀ b Bs, B = b :: Bs → G0.col b = 3 ∧ b ∉ Bs ∧ (∀ x ∈ Bs, G0.col x = 3) ∧ Bs.Nodup)
    (hB' : RepS w' e.sz (Rep w' e) l' v B') (hp : ∀ b Bs, B' = b :: Bs → ∃ Bs0, B = b :: Bs0 ∧ Bs.Perm Bs0)
    (hsame : ∀ b, b < w.heap.size → (∀ Bs, B ≠ b :: Bs) → w'.heap[b]? = w.heap[b]?) (hrow : ∀ b Bs, B = b :: Bs → ∃ c el, w'.heap[b]? = some (.cells c el (0, 0)))
    (hsize : w.heap.size ≤ w'.heap.size) (hos : w'.os = w.os) (htape : w'.tape = w.tape) (hout : w'.output = w.output) :
    ∃ G' vs nt, Post ⟨[.val (.sl e) .own], [.val (.sl e) .own], F⟩ w G0 [v] (l', ()) v w' G' vs nt := by
  refine ⟨⟨fun b => if G0.col b = 3 then 4 else G0.col b, fun t => if t = 4 then v else G0.hdr t, fun _ => false⟩, [v], 5, ?_⟩
  exact {
    val := rfl
    len := rfl
    res := fun i => by
      cases i with
      | zero =>
        show SOk w' _ (.d ⟨.sl e, l', .sl (.row 4 [4] true)⟩) v
        refine ⟨[v], rfl, v, rfl, by omega, rfl, B', hB', fun b Bs he => ?_⟩
        obtain ⟨Bs0, e0, hperm⟩ := hp b Bs he
        obtain ⟨q1, q2, q3, q4⟩ := hBo b Bs0 e0
        refine ⟨by simp [q1], fun hm => q2 (hperm.mem_iff.1 hm), fun x hx => ?_, fun _ => hperm.nodup_iff.2 q4⟩
        have := q3 x (hperm.mem_iff.1 hx)
        simp [this]
      | succ i => trivial
    ios := fun t i x h => by cases h
    frame := fun b hb hc => by
      refine ⟨by simp only; rw [if_neg (by omega)], hsame b hb (fun Bs he => ?_)⟩
      have := (hBo b Bs he).1
      omega
    one := fun b h => by
      simp only at h
      split at h
      · omega
      · exact ⟨(hlot.colU b (by omega)).2, h⟩
    size := hsize
    os := hos
    tape := htape
    output := hout
    lt := fun b h => by
      simp only at h
      refine Nat.lt_of_lt_of_le (hlot.colU b ?_).2 hsize
      split at h <;> omega
    fresh := fun b h => by
      simp only at h
      have h3 : 3 ≤ G0.col b := by split at h <;> omega
      obtain ⟨c, el, hc⟩ := hlot.fresh b h3
      by_cases hb : ∃ Bs, B = b :: Bs
      · obtain ⟨Bs, he⟩ := hb
        exact hrow b Bs he
      · rw [hsame b (hlot.colU b (by omega)).2 (fun Bs he => hb ⟨Bs, he⟩)]
        exact ⟨c, el, hc⟩ }

end Vg

/- VG, part 73: a function that puts a row of alarms in order in place: its contract. -/
namespace Vg
open Go Go.RowKit

abbrev tAl : Ty := .pair (.sl (.pair .str .str)) (.pair (.int .i64) (.pair (.int .i64) .str))

def bylabF (x : List tAl.den × Unit) : Option (List tAl.den × Unit) :=
  if (decide (x.1.length < 20) && x.1.all fun a => decide (a.1.length < 4611686018427387904)) = true then some (sortL x.1, ()) else none

theorem sortBy_short {α : Type} (lt : α → α → Bool) : ∀ {l : List α}, l.length ≤ 1 → sortBy lt l = l
  | [], _ => rfl
  | [x], _ => rfl
  | _ :: _ :: _, h => by simp at h

theorem sub_list {α : Type} {p : α → Prop} : ∀ (L : List α), (∀ x ∈ L, p x) → ∃ LA : List {x // p x}, LA.map Subtype.val = L
  | [], _ => ⟨[], rfl⟩
  | x :: L, h => by
    obtain ⟨LA, e⟩ := sub_list L (fun y hy => h y (by simp [hy]))
    exact ⟨⟨x, h x (by simp)⟩ :: LA, by rw [List.map_cons, e]⟩

theorem put_list {F c : Array Value} {off : Nat} (h : off + F.size ≤ c.size) : ((Go.Sort.putCells id off F c).toList.drop off).take F.size = F.toList := by
  apply List.ext_getElem?
  intro t
  rw [List.getElem?_take]
  split
  · rename_i ht
    rw [List.getElem?_drop, Array.getElem?_toList]
    unfold Go.Sort.putCells
    rw [Array.getElem?_mapIdx, Array.getElem?_eq_getElem (show off + t < c.size by omega)]
    rw [Option.map_some, if_pos ⟨by omega, by omega⟩, Array.getElem?_toList, Array.getElem?_eq_getElem ht, show off + t - off = t by omega, getElem!_pos F t ht]
    rfl
  · rw [List.getElem?_eq_none]
    simp
    omega

theorem put_size (F c : Array Value) (off : Nat) : (Go.Sort.putCells id off F c).size = c.size := by simp [Go.Sort.putCells]

theorem al_one {w : World} {x : tAl.den} {cs : List Value} {B : List Nat} (h : Rep w tAl x cs B) : (∀ v ∈ cs, v.oneCell' = true) ∧
    ∃ v B1, cs[0]? = some v ∧ (∀ y ∈ B1, y ∈ B) ∧ RepS w 2 (Rep w (.pair .str .str)) x.1 v B1 := by
  obtain ⟨c1, c2, B1, B2, rfl, rfl, ⟨v, rfl, hv⟩, ⟨d1, d2, C1, C2, rfl, rfl, ⟨rfl, rfl⟩, ⟨f1, f2, D1, D2, rfl, rfl, ⟨rfl, rfl⟩, ⟨rfl, rfl⟩⟩⟩⟩ := h
  refine ⟨fun u hu => ?_, v, B1, rfl, fun y hy => List.mem_append_left _ hy, hv⟩
  simp only [List.singleton_append, List.mem_cons, List.not_mem_nil, or_false] at hu
  rcases hu with rfl | rfl | rfl | rfl
  · exact hv.one
  · rfl
  · rfl
  · rfl

theorem meets_sorts {P : Program} {f : FuncId} {fn : Func} (hf : P.funcs[f]? = some fn) (hname : (fn.name == "runtime.NumGoroutine") = false) (hb : fn.body.isSome = true)
    (tiny : ∀ (p : Option Addr) (n c : Nat), n ≤ 1 → ∀ w : World, Calls P f #[.slice p n c] w fun e w' => e = .returned (.slice p n c) ∧ ∃ os, w' = Go.Sort.grow w os)
    (few : ∀ {α : Type} [Inhabited α] (enc : α → List Value) (_ : ∀ x, (enc x).length = 4) (_ : ∀ x, ∀ v ∈ enc x, v.oneCell' = true) (lab : α → List (ByteArray × ByteArray)) (blk off c : Nat) (d : Array α) (w : World)
      (_ : 2 ≤ d.size) (_ : d.size < 20) (_ : Go.Sort.HoldsK enc 4 w blk off d) (_ : blk < w.heap.size) (_ : Go.Proofs.VgLabAt enc lab blk w),
      Calls P f #[.slice (some ⟨blk, off, none⟩) d.size c] w fun e w' =>
        e = .returned (.slice (some ⟨blk, off, none⟩) d.size c) ∧ ∃ n os, w' = Go.Sort.grow (Go.Sort.putRowK enc 4 (Go.Sort.ahead w n) blk off (Go.Sort.insertionSort (fun x y => setLess (lab x) (lab y)) d 0 d.size)) os) :
    Meets P f ⟨[.val (.sl tAl) .own], [.val (.sl tAl) .own], bylabF⟩ := by
  intro w G0 args x y hy hlot
  have hlen : args.length = 1 := hlot.len
  obtain ⟨v, rfl⟩ : ∃ v, args = [v] := by
    match args, hlen with
    | [a], _ => exact ⟨a, rfl⟩
  obtain ⟨l, u⟩ := x
  suffices H : ∀ (l : List tAl.den) (y : List tAl.den × Unit), bylabF (l, ()) = some y → Lot w G0 (env0 [.val (.sl tAl) .own] (l, ()) 3).1 [v] 4 →
      Upon P f [v].toArray w (fun mv w' => ∃ G' vs nt, Post ⟨[.val (.sl tAl) .own], [.val (.sl tAl) .own], bylabF⟩ w G0 [v] y mv w' G' vs nt) from H l y hy hlot
  clear hy hlot u y hlen l
  intro l y hy hlot
  have s0 : SOk w G0 (.d ⟨.sl tAl, l, .sl (.row 3 [3] true)⟩) v := hlot.slots 0
  obtain ⟨cs, e0, v', rfl, _, _, B, hB, hBo⟩ := s0
  have e0' : v = v' := e0
  subst e0'
  have hB : RepS w tAl.sz (Rep w tAl) l v B := hB
  have hBo' : ∀ b Bs, B = b :: Bs → G0.col b = 3 ∧ b ∉ Bs ∧ (∀ x ∈ Bs, G0.col x = 3) ∧ Bs.Nodup := fun b Bs he => by
    obtain ⟨q1, q2, q3, q4⟩ := hBo b Bs he
    exact ⟨q1, q2, fun x hx => by simpa using q3 x hx, q4 rfl⟩
  unfold bylabF at hy
  split at hy
  rotate_left
  · cases hy
  rename_i hc
  simp only [Bool.and_eq_true, decide_eq_true_eq, List.all_eq_true] at hc
  obtain ⟨h20, hll⟩ := hc
  have hy' := Option.some.inj hy
  subst hy'
  refine upon_calls hf hname hb ?_
  have hshort : l.length ≤ 1 → ∀ os, ∃ G' vs nt, Post ⟨[.val (.sl tAl) .own], [.val (.sl tAl) .own], bylabF⟩ w G0 [v] (sortL l, ()) v (Go.Sort.grow w os) G' vs nt := fun h1 os => by
    have hs : ∀ b, b < w.heap.size → (Go.Sort.grow w os).heap[b]? = w.heap[b]? := fun b h => by
      show (w.heap ++ os)[b]? = _
      rw [Array.getElem?_append_left h]
    have e : sortL l = l := sortBy_short _ h1
    rw [e]
    refine post_sorted (e := tAl) hlot hB hBo' (B' := B) (hB.mono (fun b hb => hs b (RepS.bounds hB b hb))) (fun b Bs he => ⟨Bs, he, List.Perm.refl _⟩) (fun b h _ => hs b h) (fun b Bs he => ?_) ?_ rfl rfl rfl
    · obtain ⟨c, el, hc⟩ := hlot.fresh b (by rw [(hBo' b Bs he).1]; exact Nat.le_refl _)
      exact ⟨c, el, by rw [hs b (lt_of_block hc)]; exact hc⟩
    · show w.heap.size ≤ (w.heap ++ os).size
      rw [Array.size_append]; omega
  by_cases h1 : l.length ≤ 1
  · obtain ⟨p, n, c, hv, hn⟩ : ∃ p n c, v = .slice p n c ∧ n ≤ 1 := by
      rcases hB with ⟨⟨ao, e⟩, _, _⟩ | ⟨b, off, cap, c, el, fz, Bs, e, _⟩
      · exact ⟨ao, 0, 0, e, by omega⟩
      · exact ⟨_, _, _, e, h1⟩
    subst hv
    refine (tiny p n c hn w).mono ?_
    rintro e w' ⟨rfl, os, rfl⟩
    exact ⟨_, rfl, hshort h1 os⟩
  have hB0 := hB
  rcases hB with ⟨_, e, _⟩ | ⟨b, off, cap, c, el, fz, Bs, rfl, hcap, hbk, hsz, rfl, hl⟩
  · exact absurd (by rw [e]; simp) h1
  obtain ⟨q1, q2, q3, q4⟩ := hBo' b Bs rfl
  have hfz : fz = (0, 0) := by
    obtain ⟨c', el', hc'⟩ := hlot.fresh b (by rw [q1]; exact Nat.le_refl _)
    rw [hbk] at hc'
    simp only [Option.some.injEq, Obj.cells.injEq] at hc'
    exact hc'.2.2
  subst hfz
  obtain ⟨L, hL, hlL, hcs, hBs⟩ := repL_parts hl
  have hbnd : ∀ x ∈ Bs, x < w.heap.size := fun x hx => RepS.bounds hB0 x (by simp [hx])
  have hLp : ∀ x ∈ L, Rep w tAl x.1 x.2.1 x.2.2 ∧ b ∉ x.2.2 ∧ x.1.1.length < 4611686018427387904 := fun x hx => by
    refine ⟨hL x hx, fun hm => q2 (by rw [hBs]; exact List.mem_flatMap.2 ⟨x, hx, hm⟩), hll x.1 ?_⟩
    rw [hlL]; exact List.mem_map.2 ⟨x, hx, rfl⟩
  obtain ⟨LA, hLA⟩ := sub_list L hLp
  have hlenL : LA.length = l.length := by rw [hlL, ← hLA]; simp
  haveI : Inhabited {x : tAl.den × List Value × List Nat // Rep w tAl x.1 x.2.1 x.2.2 ∧ b ∉ x.2.2 ∧ x.1.1.length < 4611686018427387904} := ⟨LA.head (by intro e; rw [e] at hlenL; simp at hlenL; omega)⟩
  have hk4 : ∀ x : {x : tAl.den × List Value × List Nat // Rep w tAl x.1 x.2.1 x.2.2 ∧ b ∉ x.2.2 ∧ x.1.1.length < 4611686018427387904}, x.val.2.1.length = 4 := fun x => Rep.len x.property.1
  have hflat : ∀ M : List {x : tAl.den × List Value × List Nat // Rep w tAl x.1 x.2.1 x.2.2 ∧ b ∉ x.2.2 ∧ x.1.1.length < 4611686018427387904}, (M.map Subtype.val).flatMap (fun x => x.2.1) = M.flatMap (fun x => x.val.2.1) := fun M => by
    rw [List.flatMap_map]
  have hcs2 : LA.flatMap (fun x => x.val.2.1) = (c.toList.drop off).take (l.length * 4) := by
    rw [← hflat, hLA]; exact hcs.symm
  have hH : Go.Sort.HoldsK (fun x : {x : tAl.den × List Value × List Nat // Rep w tAl x.1 x.2.1 x.2.2 ∧ b ∉ x.2.2 ∧ x.1.1.length < 4611686018427387904} => x.val.2.1) 4 w b off LA.toArray := by
    intro j hj
    refine ⟨?_, frozen_row hbk _⟩
    rw [Go.Sort.size_flatK] at hj
    have hj2 : j < LA.length * 4 := by simpa using hj
    rw [Go.Sort.get_flatK _ _ _ _ hj]
    have h2 := flat_at (enc := fun x : {x : tAl.den × List Value × List Nat // Rep w tAl x.1 x.2.1 x.2.2 ∧ b ∉ x.2.2 ∧ x.1.1.length < 4611686018427387904} => x.val.2.1) hk4 (by omega) LA j hj2
    rw [hcs2, List.getElem?_take, if_pos (by omega), List.getElem?_drop, Array.getElem?_toList] at h2
    unfold World.cell?
    simp only [hbk, Option.isSome_none, Bool.false_eq_true, if_false]
    rw [h2]
    simp
  have hlab : Go.Proofs.VgLabAt (fun x : {x : tAl.den × List Value × List Nat // Rep w tAl x.1 x.2.1 x.2.2 ∧ b ∉ x.2.2 ∧ x.1.1.length < 4611686018427387904} => x.val.2.1) (fun x => x.val.1.1) b w := by
    rintro ⟨⟨a, ac, aB⟩, ha, hbn, hal⟩
    obtain ⟨_, v1, B1, hv1, hsub, hrep⟩ := al_one ha
    rcases hrep with ⟨⟨ao, e1⟩, e2, _⟩ | ⟨b1, off1, cap1, c1, el1, fz1, Bs1, e1, hcap1, hbk1, hsz1, e2, hl1⟩
    · have e2' : a.1 = [] := e2
      refine ⟨ao, 0, ?_, hal, fun i hi => ?_⟩
      · show ac[0]? = some (.slice ao a.1.length 0)
        rw [hv1, e1, e2']; rfl
      · change i < a.1.length at hi
        rw [e2'] at hi; simp at hi
    · refine ⟨some ⟨b1, off1, none⟩, cap1, ?_, hal, fun i hi => ?_⟩
      · show ac[0]? = some (.slice (some ⟨b1, off1, none⟩) a.1.length cap1)
        rw [hv1, e1]
      · change i < a.1.length at hi
        obtain ⟨_, hq⟩ := repL_lab hl1
        obtain ⟨r1, r2⟩ := hq i hi
        refine ⟨b1, off1, rfl, fun e => hbn (hsub b (by rw [e2, e]; simp)), lt_of_block hbk1, ?_, ?_⟩
        · unfold World.cell?
          simp only [hbk1, Option.isSome_none, Bool.false_eq_true, if_false]
          rw [List.getElem?_take, if_pos (by show i * 2 < a.1.length * 2; omega), List.getElem?_drop, Array.getElem?_toList] at r1
          exact r1
        · unfold World.cell?
          simp only [hbk1, Option.isSome_none, Bool.false_eq_true, if_false]
          rw [List.getElem?_take, if_pos (by show i * 2 + 1 < a.1.length * 2; omega), List.getElem?_drop, Array.getElem?_toList] at r2
          exact r2
  have hcall := few (fun x : {x : tAl.den × List Value × List Nat // Rep w tAl x.1 x.2.1 x.2.2 ∧ b ∉ x.2.2 ∧ x.1.1.length < 4611686018427387904} => x.val.2.1) hk4 (fun x => (al_one x.property.1).1) (fun x => x.val.1.1) b off cap LA.toArray w
    (by simp; omega) (by simp; omega) hH (lt_of_block hbk) hlab
  rw [ins_sort _ LA (by omega)] at hcall
  have hsz2 : LA.toArray.size = l.length := by simpa using hlenL
  rw [hsz2] at hcall
  refine hcall.mono ?_
  rintro e w' ⟨rfl, n, os, hw⟩
  refine ⟨_, rfl, ?_⟩
  have hblk : b < w.heap.size := lt_of_block hbk
  generalize hLS : sortBy (fun x y : {x : tAl.den × List Value × List Nat // Rep w tAl x.1 x.2.1 x.2.2 ∧ b ∉ x.2.2 ∧ x.1.1.length < 4611686018427387904} => setLess x.val.1.1 y.val.1.1) LA = LS at hw
  have hperm : LS.Perm LA := by rw [← hLS]; exact sortBy_perm _ _
  have hheap : ∀ k, k < w.heap.size → k ≠ b → w'.heap[k]? = w.heap[k]? := fun k hk hne => by
    rw [hw]
    show ((w.heap.modify b _) ++ os)[k]? = _
    rw [Array.getElem?_append_left (by rw [Array.size_modify]; exact hk), Array.getElem?_modify, if_neg (fun h => hne h.symm)]
  have hrow : w'.heap[b]? = some (.cells (Go.Sort.putCells id off (Go.Sort.flatK (fun x : {x : tAl.den × List Value × List Nat // Rep w tAl x.1 x.2.1 x.2.2 ∧ b ∉ x.2.2 ∧ x.1.1.length < 4611686018427387904} => x.val.2.1) 4 LS.toArray) c) el (0, 0)) := by
    rw [hw]
    show ((w.heap.modify b _) ++ os)[b]? = _
    rw [Array.getElem?_append_left (by rw [Array.size_modify]; exact hblk), Array.getElem?_modify, if_pos rfl, hbk]
    rfl
  have hLSlen : LS.length = l.length := by rw [hperm.length_eq, hlenL]
  have hFs : (Go.Sort.flatK (fun x : {x : tAl.den × List Value × List Nat // Rep w tAl x.1 x.2.1 x.2.2 ∧ b ∉ x.2.2 ∧ x.1.1.length < 4611686018427387904} => x.val.2.1) 4 LS.toArray).size = l.length * 4 := by
    rw [Go.Sort.size_flatK]; simp [hLSlen]
  have hsz4 : off + cap * 4 ≤ c.size := hsz
  have hsortl : sortL l = (LS.map Subtype.val).map (·.1) := by
    rw [hlL, ← hLA, ← hLS, List.map_map, List.map_map]
    unfold sortL
    exact (sortBy_map (lt := fun x y : {x : tAl.den × List Value × List Nat // Rep w tAl x.1 x.2.1 x.2.2 ∧ b ∉ x.2.2 ∧ x.1.1.length < 4611686018427387904} => setLess x.val.1.1 y.val.1.1) (lt' := lessA) ((·.1) ∘ Subtype.val) (fun _ _ => rfl) LA).symm
  have hpermB : ((LS.map Subtype.val).flatMap (·.2.2)).Perm Bs := by
    rw [hBs, ← hLA]
    exact List.Perm.flatMap_right _ (hperm.map _)
  have hB' : RepS w' tAl.sz (Rep w' tAl) (sortL l) (.slice (some ⟨b, off, none⟩) l.length cap) (b :: (LS.map Subtype.val).flatMap (·.2.2)) := by
    have hll' : (sortL l).length = l.length := by rw [hsortl]; simp [hLSlen]
    refine .inr ⟨b, off, cap, _, el, (0, 0), _, by rw [hll'], by rw [hll']; exact hcap, hrow, by rw [put_size]; exact hsz, rfl, ?_⟩
    have := parts_repL (R := Rep w' tAl) (LS.map Subtype.val) (fun x hx => by
      obtain ⟨z, hz, rfl⟩ := List.mem_map.1 hx
      refine Rep.mono (fun k hk => ?_) z.property.1
      refine hheap k (Rep.bounds z.property.1 k hk) (fun e => z.property.2.1 (e ▸ hk)))
    rw [hll', hsortl]
    have e2 : ((Go.Sort.putCells id off (Go.Sort.flatK (fun x : {x : tAl.den × List Value × List Nat // Rep w tAl x.1 x.2.1 x.2.2 ∧ b ∉ x.2.2 ∧ x.1.1.length < 4611686018427387904} => x.val.2.1) 4 LS.toArray) c).toList.drop off).take (l.length * tAl.sz) = (LS.map Subtype.val).flatMap (fun x => x.2.1) := by
      have hp := put_list (F := Go.Sort.flatK (fun x : {x : tAl.den × List Value × List Nat // Rep w tAl x.1 x.2.1 x.2.2 ∧ b ∉ x.2.2 ∧ x.1.1.length < 4611686018427387904} => x.val.2.1) 4 LS.toArray) (c := c) (off := off) (by rw [hFs]; omega)
      rw [hFs] at hp
      rw [hflat, ← flatK_list hk4 (by omega) LS]
      exact hp
    rw [e2]
    exact this
  refine post_sorted (e := tAl) hlot hB0 hBo' hB' (fun b2 Bs2 he => ?_) (fun k hk hne => hheap k hk (fun e => hne Bs (by rw [e]))) (fun b2 Bs2 he => ?_) ?_ ?_ ?_ ?_
  · obtain ⟨rfl, rfl⟩ := List.cons.inj he
    exact ⟨Bs, rfl, hpermB⟩
  · obtain ⟨rfl, rfl⟩ := List.cons.inj he
    exact ⟨_, _, hrow⟩
  · rw [hw]
    show w.heap.size ≤ ((w.heap.modify b _) ++ os).size
    rw [Array.size_append, Array.size_modify]; omega
  · rw [hw]; rfl
  · rw [hw]; rfl
  · rw [hw]; rfl

end Vg
