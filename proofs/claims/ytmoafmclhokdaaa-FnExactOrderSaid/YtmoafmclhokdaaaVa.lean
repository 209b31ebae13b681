/- VG, joined: an evaluator of the code over typed values, and its soundness, for any program. -/
import Derived.Calls
import Derived.Below
import Derived.Laws.Append
import Derived.Laws.AppendOwn
import Derived.Laws.Cells
import Derived.Laws.Entries
import Derived.Laws.MakeOwn
import Derived.Laws.IdiomCopy
import Derived.Laws.Slices
import Derived.Great.BuildSlice
import Derived.Laws.Strings
import Derived.Laws.BytesString
import Derived.Laws.BytesArg
set_option linter.unusedSimpArgs false
set_option linter.unusedVariables false
/- VG, part 1: types, typed values, and what the cells of memory say. -/
namespace Vg
open Go

/-- The kinds of values that are told: whole numbers, bools, texts, slices, structs (pairs of pairs). -/
inductive Ty where
  | int (k : IntKind)
  | bool
  | str
  | sl (e : Ty)
  | pair (a b : Ty)
  deriving DecidableEq, Inhabited

@[reducible] def Ty.den : Ty → Type
  | .int _ => Int
  | .bool => Bool
  | .str => ByteArray
  | .sl e => List e.den
  | .pair a b => a.den × b.den

def Ty.sz : Ty → Nat
  | .pair a b => a.sz + b.sz
  | _ => 1

def Ty.dflt : (τ : Ty) → τ.den
  | .int _ => (0 : Int)
  | .bool => false
  | .str => ByteArray.empty
  | .sl _ => []
  | .pair a b => (a.dflt, b.dflt)

/-- The cells of the zero value. -/
def Ty.zero : Ty → List Value
  | .int k => [.int k 0]
  | .bool => [.bool false]
  | .str => [.string .empty]
  | .sl _ => [.slice none 0 0]
  | .pair a b => a.zero ++ b.zero

def Ty.isPair : Ty → Bool
  | .pair _ _ => true
  | _ => false

/-- A value out of its cells. -/
def mkv : Ty → List Value → Value
  | .pair _ _, cs => .agg cs.toArray
  | _, cs => cs.headD undef

theorem Ty.sz_pos : ∀ τ : Ty, 0 < τ.sz
  | .int _ | .bool | .str | .sl _ => Nat.one_pos
  | .pair a b => by have := a.sz_pos; simp only [Ty.sz]; omega

theorem Ty.zero_len : ∀ τ : Ty, τ.zero.length = τ.sz
  | .int _ | .bool | .str | .sl _ => rfl
  | .pair a b => by simp [Ty.zero, Ty.sz, a.zero_len, b.zero_len]

/-- Elements one behind the other: their cells, their blocks. -/
def RepL {α : Type} (R : α → List Value → List Nat → Prop) : List α → List Value → List Nat → Prop
  | [], cs, B => cs = [] ∧ B = []
  | x :: l, cs, B => ∃ c1 c2 B1 B2, cs = c1 ++ c2 ∧ B = B1 ++ B2 ∧ R x c1 B1 ∧ RepL R l c2 B2

/-- A slice: nil, or cells of one block. -/
def RepS {α : Type} (w : World) (sz : Nat) (R : α → List Value → List Nat → Prop) (l : List α) (v : Value) (B : List Nat) : Prop :=
  ((∃ ao, v = .slice ao 0 0) ∧ l = [] ∧ B = []) ∨
  ∃ (b off cap : Nat) (c : Array Value) (el : TypeId) (fz : Nat × Nat) (Bs : List Nat),
    v = .slice (some ⟨b, off, none⟩) l.length cap ∧ l.length ≤ cap ∧ w.heap[b]? = some (.cells c el fz) ∧ off + cap * sz ≤ c.size ∧
    B = b :: Bs ∧ RepL R l ((c.toList.drop off).take (l.length * sz)) Bs

/-- What the cells say: the value, and the blocks that are come to, in the order of a walk. -/
def Rep (w : World) : (τ : Ty) → τ.den → List Value → List Nat → Prop
  | .int k, n, cs, B => cs = [.int k n] ∧ B = []
  | .bool, b, cs, B => cs = [.bool b] ∧ B = []
  | .str, s, cs, B => cs = [.string s] ∧ B = []
  | .pair a b, p, cs, B => ∃ c1 c2 B1 B2, cs = c1 ++ c2 ∧ B = B1 ++ B2 ∧ Rep w a p.1 c1 B1 ∧ Rep w b p.2 c2 B2
  | .sl e, l, cs, B => ∃ v, cs = [v] ∧ RepS w e.sz (Rep w e) l v B

theorem RepL.len {α : Type} {R : α → List Value → List Nat → Prop} {sz : Nat} (hR : ∀ x c B, R x c B → c.length = sz) :
    ∀ {l : List α} {cs : List Value} {B : List Nat}, RepL R l cs B → cs.length = l.length * sz
  | [], _, _, h => by simp [h.1]
  | x :: l, cs, B, h => by
    obtain ⟨c1, c2, B1, B2, rfl, rfl, h1, h2⟩ := h
    simp [hR _ _ _ h1, RepL.len hR h2, Nat.add_mul, Nat.add_comm]

theorem Rep.len {w : World} : ∀ {τ : Ty} {x : τ.den} {cs : List Value} {B : List Nat}, Rep w τ x cs B → cs.length = τ.sz
  | .int _, _, _, _, h => by rw [h.1]; rfl
  | .bool, _, _, _, h => by rw [h.1]; rfl
  | .str, _, _, _, h => by rw [h.1]; rfl
  | .pair a b, p, cs, B, h => by
    obtain ⟨c1, c2, B1, B2, rfl, rfl, h1, h2⟩ := h
    simp [Rep.len h1, Rep.len h2, Ty.sz]
  | .sl e, l, cs, B, h => by obtain ⟨v, rfl, _⟩ := h; rfl

theorem RepL.mono {α : Type} {R R' : α → List Value → List Nat → Prop} (P : Nat → Prop) (hR : ∀ x c B, (∀ b ∈ B, P b) → R x c B → R' x c B) :
    ∀ {l : List α} {cs : List Value} {B : List Nat}, (∀ b ∈ B, P b) → RepL R l cs B → RepL R' l cs B
  | [], _, _, _, h => h
  | x :: l, cs, B, hP, h => by
    obtain ⟨c1, c2, B1, B2, rfl, rfl, h1, h2⟩ := h
    exact ⟨c1, c2, B1, B2, rfl, rfl, hR _ _ _ (fun b hb => hP b (by simp [hb])) h1, RepL.mono P hR (fun b hb => hP b (by simp [hb])) h2⟩

/-- A representation reads as it did where its blocks do. -/
theorem Rep.mono {w w' : World} : ∀ {τ : Ty} {x : τ.den} {cs : List Value} {B : List Nat}, (∀ b ∈ B, w'.heap[b]? = w.heap[b]?) → Rep w τ x cs B → Rep w' τ x cs B
  | .int _, _, _, _, _, h => h
  | .bool, _, _, _, _, h => h
  | .str, _, _, _, _, h => h
  | .pair a b, p, cs, B, hB, h => by
    obtain ⟨c1, c2, B1, B2, rfl, rfl, h1, h2⟩ := h
    exact ⟨c1, c2, B1, B2, rfl, rfl, Rep.mono (fun b hb => hB b (by simp [hb])) h1, Rep.mono (fun b hb => hB b (by simp [hb])) h2⟩
  | .sl e, l, cs, B, hB, h => by
    obtain ⟨v, rfl, h⟩ := h
    refine ⟨v, rfl, ?_⟩
    rcases h with h | ⟨b, off, cap, c, el, fz, Bs, hv, hcap, hb, hsz, rfl, hl⟩
    · exact .inl h
    · refine .inr ⟨b, off, cap, c, el, fz, Bs, hv, hcap, (hB b (by simp)).trans hb, hsz, rfl, ?_⟩
      exact RepL.mono (fun b => w'.heap[b]? = w.heap[b]?) (fun x c B hP hx => Rep.mono hP hx) (fun b' hb' => hB b' (by simp [hb'])) hl

theorem RepL.bounds {α : Type} {R : α → List Value → List Nat → Prop} (P : Nat → Prop) (hR : ∀ x c B, R x c B → ∀ b ∈ B, P b) :
    ∀ {l : List α} {cs : List Value} {B : List Nat}, RepL R l cs B → ∀ b ∈ B, P b
  | [], _, _, h, b, hb => by rw [h.2] at hb; cases hb
  | x :: l, cs, B, h, b, hb => by
    obtain ⟨c1, c2, B1, B2, rfl, rfl, h1, h2⟩ := h
    rcases List.mem_append.1 hb with hb | hb
    · exact hR _ _ _ h1 b hb
    · exact RepL.bounds P hR h2 b hb

theorem lt_of_block {w : World} {b : Nat} {o : Obj} (h : w.heap[b]? = some o) : b < w.heap.size := by
  rcases Nat.lt_or_ge b w.heap.size with h' | h'
  · exact h'
  · simp [Array.getElem?_eq_none h'] at h

theorem Rep.bounds {w : World} : ∀ {τ : Ty} {x : τ.den} {cs : List Value} {B : List Nat}, Rep w τ x cs B → ∀ b ∈ B, b < w.heap.size
  | .int _, _, _, _, h, b, hb => by rw [h.2] at hb; cases hb
  | .bool, _, _, _, h, b, hb => by rw [h.2] at hb; cases hb
  | .str, _, _, _, h, b, hb => by rw [h.2] at hb; cases hb
  | .pair a b, p, cs, B, h, b', hb => by
    obtain ⟨c1, c2, B1, B2, rfl, rfl, h1, h2⟩ := h
    rcases List.mem_append.1 hb with hb | hb
    · exact Rep.bounds h1 b' hb
    · exact Rep.bounds h2 b' hb
  | .sl e, l, cs, B, h, b', hb => by
    obtain ⟨v, rfl, h⟩ := h
    rcases h with h | ⟨b, off, cap, c, el, fz, Bs, hv, hcap, hbk, hsz, rfl, hl⟩
    · rw [h.2.2] at hb; cases hb
    · rcases List.mem_cons.1 hb with rfl | hb
      · exact lt_of_block hbk
      · exact RepL.bounds _ (fun x c B hx => Rep.bounds hx) hl b' hb

theorem Rep.zero (w : World) : ∀ τ : Ty, Rep w τ τ.dflt τ.zero []
  | .int _ => ⟨rfl, rfl⟩
  | .bool => ⟨rfl, rfl⟩
  | .str => ⟨rfl, rfl⟩
  | .sl _ => ⟨_, rfl, .inl ⟨⟨none, rfl⟩, rfl, rfl⟩⟩
  | .pair a b => ⟨_, _, [], [], rfl, rfl, Rep.zero w a, Rep.zero w b⟩

theorem RepL.append {α : Type} {R : α → List Value → List Nat → Prop} : ∀ {l1 l2 : List α} {c1 c2 : List Value} {B1 B2 : List Nat},
    RepL R l1 c1 B1 → RepL R l2 c2 B2 → RepL R (l1 ++ l2) (c1 ++ c2) (B1 ++ B2)
  | [], _, _, _, _, _, h1, h2 => by rw [h1.1, h1.2]; exact h2
  | x :: l, l2, c1, c2, B1, B2, h1, h2 => by
    obtain ⟨a, b, A, B, rfl, rfl, hx, hl⟩ := h1
    exact ⟨a, b ++ c2, A, B ++ B2, by simp, by simp, hx, RepL.append hl h2⟩

theorem RepL.split {α : Type} {R : α → List Value → List Nat → Prop} {sz : Nat} (hR : ∀ x c B, R x c B → c.length = sz) :
    ∀ {l1 l2 : List α} {cs : List Value} {B : List Nat}, RepL R (l1 ++ l2) cs B →
      ∃ B1 B2, B = B1 ++ B2 ∧ RepL R l1 (cs.take (l1.length * sz)) B1 ∧ RepL R l2 (cs.drop (l1.length * sz)) B2
  | [], l2, cs, B, h => ⟨[], B, rfl, ⟨by simp, rfl⟩, by simpa using h⟩
  | x :: l, l2, cs, B, h => by
    obtain ⟨c1, c2, A1, A2, rfl, rfl, hx, hl⟩ := h
    obtain ⟨B1, B2, rfl, h1, h2⟩ := RepL.split hR hl
    have hc := hR _ _ _ hx
    refine ⟨A1 ++ B1, B2, by simp, ⟨c1, _, A1, B1, ?_, rfl, hx, h1⟩, ?_⟩
    · rw [List.take_append, List.take_of_length_le (by simp [Nat.add_mul]; omega)]
      congr 2
      simp [Nat.add_mul]; omega
    · have e : (x :: l).length * sz = c1.length + l.length * sz := by simp [Nat.add_mul]; omega
      rw [e, List.drop_append, List.drop_of_length_le (by omega)]
      simpa using h2

theorem RepL.one {α : Type} {R : α → List Value → List Nat → Prop} {x : α} {cs : List Value} {B : List Nat} (h : R x cs B) : RepL R [x] cs B :=
  ⟨cs, [], B, [], by simp, by simp, h, rfl, rfl⟩

theorem RepL.of_one {α : Type} {R : α → List Value → List Nat → Prop} {x : α} {cs : List Value} {B : List Nat} (h : RepL R [x] cs B) : R x cs B := by
  obtain ⟨c1, c2, A1, A2, rfl, rfl, hx, h1, h2⟩ := h
  subst h1 h2; simpa using hx

/-- Element i: its cells, its blocks. -/
theorem RepL.get {α : Type} {R : α → List Value → List Nat → Prop} {sz : Nat} (hR : ∀ x c B, R x c B → c.length = sz)
    {l : List α} {cs : List Value} {B : List Nat} (h : RepL R l cs B) {i : Nat} {x : α} (hx : l[i]? = some x) :
    ∃ B1 Bx B2, B = B1 ++ Bx ++ B2 ∧ R x ((cs.drop (i * sz)).take sz) Bx ∧
      RepL R (l.take i) (cs.take (i * sz)) B1 ∧ RepL R (l.drop (i + 1)) (cs.drop ((i + 1) * sz)) B2 := by
  obtain ⟨hi, hxi⟩ := List.getElem?_eq_some_iff.1 hx
  have e : l = l.take i ++ (x :: l.drop (i + 1)) := by rw [← hxi, ← List.drop_eq_getElem_cons hi, List.take_append_drop]
  rw [e] at h
  obtain ⟨B1, B2, rfl, h1, h2⟩ := RepL.split hR h
  have hl : (l.take i).length = i := by simp; omega
  rw [hl] at h1 h2
  obtain ⟨c1, c2, A1, A2, hc, rfl, hx1, hl2⟩ := h2
  have hc1 := hR _ _ _ hx1
  refine ⟨B1, A1, A2, by simp, ?_, h1, ?_⟩
  · rw [hc, List.take_append, List.take_of_length_le (by omega)]
    simpa [hc1] using hx1
  · have : cs.drop ((i + 1) * sz) = c2 := by
      rw [Nat.add_mul, Nat.one_mul, ← List.drop_drop, hc, ← hc1, List.drop_left]
    rw [this]; exact hl2

/-- Element i written anew. -/
theorem RepL.set {α : Type} {R : α → List Value → List Nat → Prop} {sz : Nat}
    {l : List α} {i : Nat} {y : α} {cs cy : List Value} {B1 By B2 : List Nat} (hi : i < l.length) (hy : R y cy By)
    (h1 : RepL R (l.take i) (cs.take (i * sz)) B1) (h2 : RepL R (l.drop (i + 1)) (cs.drop ((i + 1) * sz)) B2) :
    RepL R (l.set i y) (cs.take (i * sz) ++ cy ++ cs.drop ((i + 1) * sz)) (B1 ++ By ++ B2) := by
  have e : l.set i y = l.take i ++ ([y] ++ l.drop (i + 1)) := by
    rw [List.set_eq_take_append_cons_drop, if_pos hi]; rfl
  rw [e, List.append_assoc, List.append_assoc]
  exact RepL.append h1 (RepL.append (RepL.one hy) h2)

theorem RepL.replicate {α : Type} {R : α → List Value → List Nat → Prop} {x : α} {cs : List Value} (h : R x cs []) :
    ∀ n : Nat, RepL R (List.replicate n x) (List.replicate n cs).flatten []
  | 0 => ⟨rfl, rfl⟩
  | n + 1 => by
    rw [List.replicate_succ, List.replicate_succ, List.flatten_cons]
    exact ⟨cs, _, [], [], rfl, rfl, h, RepL.replicate h n⟩

/-- Each cell is one that a cell holds. -/
theorem Rep.one {w : World} : ∀ {τ : Ty} {x : τ.den} {cs : List Value} {B : List Nat}, Rep w τ x cs B → ∀ v ∈ cs, v.oneCell' = true
  | .int _, _, _, _, h, v, hv => by rw [h.1] at hv; simp at hv; subst hv; rfl
  | .bool, _, _, _, h, v, hv => by rw [h.1] at hv; simp at hv; subst hv; rfl
  | .str, _, _, _, h, v, hv => by rw [h.1] at hv; simp at hv; subst hv; rfl
  | .pair a b, p, cs, B, h, v, hv => by
    obtain ⟨c1, c2, B1, B2, rfl, rfl, h1, h2⟩ := h
    rcases List.mem_append.1 hv with hv | hv
    · exact Rep.one h1 v hv
    · exact Rep.one h2 v hv
  | .sl e, l, cs, B, h, v, hv => by
    obtain ⟨u, rfl, h⟩ := h
    simp at hv; subst hv
    rcases h with h | ⟨b, off, cap, c, el, fz, Bs, rfl, _⟩
    · obtain ⟨ao, e⟩ := h.1; rw [e]; rfl
    · rfl

end Vg

/- VG, part 2: an evaluator of the model's code over typed values; each row of memory bears a token: who owns it. -/
namespace Vg
open Go

/-- What is known of a slice's memory. row t hs nd: the head block has the colour t, what lies within has colours of hs; nd: no block is come to twice. sha hs: all blocks have colours of hs.
   nst b e i o p fr: a slice that may stand at the place p of element i of the own row b (all of whose blocks have the colour b); fr: it is the one that stands there. -/
inductive M where
  | row (t : Nat) (hs : List Nat) (nd : Bool)
  | sha (hs : List Nat)
  | nst (b : Nat) (e : Ty) (i : Int) (o : Nat) (p : List Bool) (fr : Bool)
  | dead
  deriving DecidableEq, Inhabited

/-- The shape of a value: what is known at each of its slices. -/
inductive Sh where
  | leaf
  | sl (m : M)
  | pair (a b : Sh)
  deriving DecidableEq, Inhabited

structure TV where
  τ : Ty
  x : τ.den
  sh : Sh

/-- What stands in a slot. -/
inductive SV where
  | no
  | d (v : TV)
  | box (t : Nat) (v : TV)
  | ptr (t : Nat) (o : Nat) (path : List Bool) (τ : Ty)
  | ept (t : Nat) (e : Ty) (i : Int) (o : Nat) (path : List Bool) (τ : Ty)
  | rdp (hs : List Nat) (v : TV)
  | tup (l : List TV)
  | g (j : Nat) (want : Bool) (act : Bool) (v : SV)

structure Env where
  s : List SV
  nt : Nat
  kp : Bool := false

/-- Tuples of values. -/
def TupD : List Ty → Type
  | [] => Unit
  | τ :: l => τ.den × TupD l

def TupD.dflt : (l : List Ty) → TupD l
  | [] => ()
  | τ :: l => (τ.dflt, TupD.dflt l)

/-- A type of the program: the values' type; a struct's fields; a slice's elements. -/
structure TI where
  τ : Ty
  fs : List TypeId
  el : TypeId

/-- Where field j of n lies. -/
def fpath : Nat → Nat → List Bool
  | 0, _ => []
  | 1, _ => []
  | _ + 2, 0 => [false]
  | n + 2, j + 1 => true :: fpath (n + 1) j

def Ty.sub : Ty → List Bool → Option Ty
  | τ, [] => some τ
  | .pair a _, false :: p => a.sub p
  | .pair _ b, true :: p => b.sub p
  | _, _ :: _ => none

def Ty.off : Ty → List Bool → Nat
  | _, [] => 0
  | .pair a _, false :: p => a.off p
  | .pair a b, true :: p => a.sz + b.off p
  | _, _ :: _ => 0

def subV : (τ : Ty) → τ.den → Sh → List Bool → Option TV
  | τ, x, sh, [] => some ⟨τ, x, sh⟩
  | .pair a _, x, .pair s1 _, false :: p => subV a x.1 s1 p
  | .pair _ b, x, .pair _ s2, true :: p => subV b x.2 s2 p
  | _, _, _, _ :: _ => none

def castV (v : TV) (τ : Ty) : Option τ.den := if h : v.τ = τ then some (cast (congrArg Ty.den h) v.x) else none

/-- The value with a part of it put anew. -/
def putV : (τ : Ty) → τ.den → Sh → List Bool → TV → Option (τ.den × Sh)
  | τ, _, _, [], v => match castV v τ with | some y => some (y, v.sh) | none => none
  | .pair a _, x, .pair s1 s2, false :: p, v => match putV a x.1 s1 p v with | some (y, s) => some ((y, x.2), .pair s s2) | none => none
  | .pair _ b, x, .pair s1 s2, true :: p, v => match putV b x.2 s2 p v with | some (y, s) => some ((x.1, y), .pair s1 s) | none => none
  | _, _, _, _ :: _, _ => none

/-- The shape of a value without any memory, and of one all of whose memory has some colours. -/
def shOf : Ty → M → Sh
  | .pair a b, m => .pair (shOf a m) (shOf b m)
  | .sl _, m => .sl m
  | _, _ => .leaf

/-- Whether a type holds no slice. -/
def Ty.flat : Ty → Bool
  | .pair a b => a.flat && b.flat
  | .sl _ => false
  | _ => true

/-- A constant. -/
def decode : (τ : Ty) → List Value → Option (τ.den × List Value)
  | .int k, .int k' n :: r => if k' = k then some (n, r) else none
  | .bool, .bool b :: r => some (b, r)
  | .str, .string s :: r => some (s, r)
  | .sl _, .slice none 0 0 :: r => some ([], r)
  | .pair a b, cs => match decode a cs with
    | some (x, r) => (match decode b r with | some (y, r') => some ((x, y), r') | none => none)
    | none => none
  | _, _ => none

def constV (τ : Ty) (v : Value) : Option TV :=
  match τ, v with
  | .pair a b, .agg cs => (match decode (.pair a b) cs.toList with | some (x, []) => some ⟨.pair a b, x, shOf (.pair a b) (.sha [])⟩ | _ => none)
  | .pair _ _, _ => none
  | τ, v => (match decode τ [v] with | some (x, []) => some ⟨τ, x, shOf τ (.sha [])⟩ | _ => none)

/-- Patterns of shapes at a call. -/
inductive Pt where
  | leaf | own | shr | hd | pv
  | pair (a b : Pt)
  deriving DecidableEq, Inhabited

/-- The pattern of a type: all memory is shared. -/
def shrPt : Ty → Pt
  | .sl _ => .shr
  | .pair a b => .pair (shrPt a) (shrPt b)
  | _ => .leaf

def Pt.hasShr : Pt → Bool
  | .shr | .hd => true
  | .pair a b => a.hasShr || b.hasShr
  | _ => false

/-- Parameters: a value; what is pointed to; what is pointed to and only read; a slice that may share in the rows of some tokens. -/
inductive PK where
  | val (τ : Ty) (p : Pt)
  | io (τ : Ty) (p : Pt)
  | rd (τ : Ty)
  | vx (e : Ty) (l : List Nat)

inductive RK where
  | val (τ : Ty) (p : Pt)
  | nbox (τ : Ty) (p : Pt)

def PK.ty : PK → Ty
  | .val τ _ | .io τ _ | .rd τ => τ
  | .vx e _ => .sl e
def RK.ty : RK → Ty
  | .val τ _ | .nbox τ _ => τ

def ioTys : List PK → List Ty
  | [] => []
  | .val _ _ :: l => ioTys l
  | .io τ _ :: l => τ :: ioTys l
  | .rd _ :: l | .vx _ _ :: l => ioTys l

/-- A function's contract: its parameters, its results, what it computes: the results, and what the pointed-to parameters become. -/
structure Con where
  ps : List PK
  rs : List RK
  F : TupD (ps.map PK.ty) → Option (TupD (rs.map RK.ty ++ ioTys ps))
  kp : List (Nat × List Bool)

/-- What is kept in a slot where ways meet. -/
inductive AK where
  | val (τ : Ty) (sh : Sh)
  | box (t : Nat) (τ : Ty) (sh : Sh)
  | ptr (t : Nat) (o : Nat) (path : List Bool) (τ : Ty)
  | ept (t : Nat) (e : Ty) (o : Nat) (path : List Bool) (τ : Ty)
  | rdp (hs : List Nat) (τ : Ty) (sh : Sh)

def AK.tys : AK → List Ty
  | .val τ _ => [τ]
  | .box _ τ _ => [τ]
  | .ptr _ _ _ _ => []
  | .ept _ _ _ _ _ => [.int .i64]
  | .rdp _ τ _ => [τ]

structure Ann where
  ks : List (Nat × AK)
  nt : Nat

def Ann.tys (a : Ann) : List Ty := a.ks.flatMap fun p => p.2.tys

/-- The surroundings of a function's code. -/
structure Cx where
  tt : TypeId → Option TI
  ct : FuncId → Option Con
  la : Nat → Option Ann
  ja : Nat → Option Ann
  k : Nat
  n : Nat
  io : List Nat

/- tokens -/
def M.cols : M → List Nat
  | .row t hs _ => t :: hs
  | .sha hs => hs
  | .nst b _ _ _ _ _ => [b]
  | .dead => []

def Sh.cols : Sh → List Nat
  | .leaf => []
  | .sl m => m.cols
  | .pair a b => a.cols ++ b.cols

def Sh.live : Sh → Bool
  | .leaf => true
  | .sl .dead => false
  | .sl _ => true
  | .pair a b => a.live && b.live

def Sh.map (f : M → M) : Sh → Sh
  | .leaf => .leaf
  | .sl m => .sl (f m)
  | .pair a b => .pair (a.map f) (b.map f)

/-- The tokens of what may be handed over whole (each of them alone in its hand); none: it may not. -/
def M.own : M → Option (List Nat)
  | .row t hs nd => if nd && hs.all (3 ≤ ·) then some (t :: hs.filter (· ≠ t)) else none
  | .sha [] => some []
  | _ => none

/-- The same, but that a block may be come to twice. -/
def M.priv : M → Option (List Nat)
  | .row t hs _ => if hs.all (3 ≤ ·) then some (t :: hs.filter (· ≠ t)) else none
  | .sha [] => some []
  | _ => none

def Sh.own : Sh → Option (List Nat)
  | .leaf => some []
  | .sl m => m.own
  | .pair a b => match a.own, b.own with
    | some x, some y => if x.all (!y.contains ·) then some (x ++ y) else none
    | _, _ => none

def meets (a b : List Nat) : Bool := a.any b.contains

/-- What becomes of the others where the rows of these tokens are written. -/
def M.kill (ts : List Nat) (m : M) : M := if meets m.cols ts then .dead else m

def SV.mapM (f : M → M) (fe : Nat → Bool) (fr : List Nat → Option (List Nat)) : SV → SV
  | .d v => .d { v with sh := v.sh.map f }
  | .box t v => .box t { v with sh := v.sh.map f }
  | .ept t e i o p τ => if fe t then .ept t e i o p τ else .no
  | .rdp hs v => (match fr hs with | some hs' => .rdp hs' { v with sh := v.sh.map f } | none => .no)
  | .tup l => .tup (l.map fun v => { v with sh := v.sh.map f })
  | .g j w a v => .g j w a (v.mapM f fe fr)
  | v => v

def SV.kill (ts : List Nat) (v : SV) : SV := v.mapM (M.kill ts) (!ts.contains ·) (fun hs => if meets hs ts then none else some hs)

def Env.kill (E : Env) (ts : List Nat) : Env := if ts.isEmpty then E else { E with s := E.s.map (SV.kill ts) }

/-- The same, but that pointers into the rows of some tokens are now pointers into those of others. -/
def SV.killR (ts : List Nat) (rp : List (Nat × Nat)) : SV → SV
  | .ept b e i o p τ => match rp.lookup b with | some b' => .ept b' e i o p τ | none => if ts.isEmpty then .ept b e i o p τ else SV.kill ts (.ept b e i o p τ)
  | v => if ts.isEmpty then v else SV.kill ts v
def Env.killR (E : Env) (ts : List Nat) (rp : List (Nat × Nat)) : Env := if rp.isEmpty then E.kill ts else { E with s := E.s.map (SV.killR ts rp) }

/-- The rows of these tokens are handed over to the token t: who named them shares in it now. -/
def ren (ts : List Nat) (t : Nat) (hs : List Nat) : List Nat := (hs.map fun h => if ts.contains h then t else h).eraseDups
def M.give0 (ts : List Nat) (t : Nat) : M → M
  | .row u hs nd => if ts.contains u then .sha (ren ts t (u :: hs)) else .row u (ren ts t hs) nd
  | .sha hs => .sha (ren ts t hs)
  | .nst b _ _ _ _ _ => .sha (ren ts t [b])
  | .dead => .dead
def M.give (ts : List Nat) (t : Nat) (m : M) : M := if meets m.cols ts then m.give0 ts t else m
def SV.give (ts : List Nat) (t : Nat) (v : SV) : SV := v.mapM (M.give ts t) (!ts.contains ·) (fun hs => some (if meets hs ts then ren ts t hs else hs))
def Env.give (E : Env) (ts : List Nat) (t : Nat) : Env := if ts.isEmpty then E else { E with s := E.s.map (SV.give ts t) }

def Env.get (E : Env) (s : Nat) : SV := E.s.getD s .no
def Env.set (E : Env) (dst : Option Nat) (v : SV) : Env := match dst with | some d => { E with s := E.s.set d v } | none => E

/-- The box of a token: its slot, its content. -/
def findBox : List SV → Nat → Nat → Option (Nat × TV)
  | [], _, _ => none
  | .box t v :: l, u, i => if t = u then some (i, v) else findBox l u (i + 1)
  | _ :: l, u, i => findBox l u (i + 1)

/-- The elements of the row of a token, of this type. -/
def rowIn (t : Nat) (e : Ty) : (τ : Ty) → τ.den → Sh → Option (List e.den × List Nat × Bool)
  | .sl e', l, .sl (.row u hs nd) => if u = t then (if h : e' = e then some (cast (congrArg (fun τ => List (Ty.den τ)) h) l, hs, nd) else none) else none
  | .pair a b, x, .pair s1 s2 => match rowIn t e a x.1 s1 with | some r => some r | none => rowIn t e b x.2 s2
  | _, _, _ => none
def findRow (t : Nat) (e : Ty) : List SV → Option (List e.den × List Nat × Bool)
  | [] => none
  | .d v :: l | .box _ v :: l => match rowIn t e v.τ v.x v.sh with | some r => some r | none => findRow t e l
  | _ :: l => findRow t e l

/-- The elements of the row of a token are these now. -/
def setIn (t : Nat) (e : Ty) (y : List e.den) (m : M) : (τ : Ty) → τ.den → Sh → τ.den × Sh
  | .sl e', l, .sl (.row u hs nd) => if u = t then (if h : e' = e then (cast (congrArg (fun τ => List (Ty.den τ)) h.symm) y, .sl m) else (l, .sl .dead)) else (l, .sl (.row u hs nd))
  | .pair a b, x, .pair s1 s2 => ((setIn t e y m a x.1 s1).1, setIn t e y m b x.2 s2 |>.1) |> fun z => (z, .pair (setIn t e y m a x.1 s1).2 (setIn t e y m b x.2 s2).2)
  | _, x, sh => (x, sh)
def TV.setRow (t : Nat) (e : Ty) (y : List e.den) (m : M) (v : TV) : TV := ⟨v.τ, (setIn t e y m v.τ v.x v.sh).1, (setIn t e y m v.τ v.x v.sh).2⟩
def SV.setRow (t : Nat) (e : Ty) (y : List e.den) (m : M) : SV → SV
  | .d v => .d (v.setRow t e y m)
  | .box b v => .box b (v.setRow t e y m)
  | .tup l => .tup (l.map (TV.setRow t e y m))
  | .g j w a v => .g j w a (v.setRow t e y m)
  | .rdp hs v => if (hs ++ v.sh.cols).contains t then .no else .rdp hs v
  | v => v

/-- Sharing nodes alone are killed where a row's elements are written: who has its very head sees them anew. -/
def M.killSha (t : Nat) : M → M
  | .row u hs nd => if u = t then .row u hs nd else if hs.contains t then .dead else .row u hs nd
  | .sha hs => if hs.contains t then .dead else .sha hs
  | .nst b e i o p fr => if b = t then .dead else .nst b e i o p fr
  | .dead => .dead
def SV.killSha (t : Nat) (v : SV) : SV := v.mapM (M.killSha t) (fun _ => true) (fun hs => if hs.contains t then none else some hs)

/-- What operations read of the surroundings. -/
structure Rd where
  get : Nat → SV
  box : Nat → Option (Nat × TV)
  row : Nat → (e : Ty) → Option (List e.den × List Nat × Bool)

/-- A pointer as it is handed on. -/
def alias_ : SV → SV
  | .box t v => .ptr t 0 [] v.τ
  | .g j w a v => .g j w a (alias_ v)
  | v => v

def Env.rd (E : Env) : Rd := ⟨fun s => alias_ (E.get s), fun t => findBox E.s t 0, fun t e => findRow t e E.s⟩

/- operands -/
def opnd (C : Cx) (R : Rd) (t : TypeId) : Operand → Option SV
  | .tmp s => some (R.get s)
  | .const v => match C.tt t with | some i => (constV i.τ v).map .d | none => none
  | _ => none

/-- Under the guard G: what stands in a slot under the same guard, or none. -/
def ung (G : Option (Nat × Bool)) : SV → Option SV
  | .g j w _ v => if G = some (j, w) then some v else none
  | v => some v

def arg (C : Cx) (R : Rd) (G : Option (Nat × Bool)) (t : TypeId) (x : Operand) : Option SV := (opnd C R t x).bind (ung G)

def argD (C : Cx) (R : Rd) (G : Option (Nat × Bool)) (t : TypeId) (x : Operand) : Option TV :=
  match arg C R G t x with | some (.d v) => if v.sh.live then some v else none | _ => none

/-- What an operation does: a value; a value if something is so; a value out of what may fail; a box put anew; an append; an element put anew; a call that writes. -/
inductive Ef : Type 1 where
  | val (v : SV)
  | chk (c : Bool) (v : SV)
  | opt (α : Type) (z : α) (o : Option α) (f : α → SV)
  | put (b : Nat) (s : Nat) (v : TV)
  | app (c : Bool) (kl gv : List Nat) (t : Nat) (v : SV)
  | elem (gv : List Nat) (b : Nat) (e : Ty) (l : List e.den) (m : M)
  | nap (c : Bool) (gv : List Nat) (b : Nat) (e : Ty) (l : List e.den) (m : M) (v : SV)
  | call (α : Type) (o : Option α) (tks : List Nat) (f : α → SV × List (Nat × Nat × TV)) (rp : α → List (Nat × Nat))

def vI (k : IntKind) (n : Int) : SV := .d ⟨.int k, n, .leaf⟩
def vB (b : Bool) : SV := .d ⟨.bool, b, .leaf⟩
def vS (s : ByteArray) : SV := .d ⟨.str, s, .leaf⟩
/-- A text's byte. -/
def bt (s : ByteArray) (i : Int) : Int := ((s.data.toList.getD i.toNat 0).toNat : Int)

/-- '==' of values without slices, as the model asks: cell by cell. -/
def eqv : (τ : Ty) → τ.den → τ.den → Bool
  | .int _, a, b => a == b
  | .bool, a, b => a == b
  | .str, a, b => a.toList == b.toList
  | .pair a b, x, y => eqv a x.1 y.1 && eqv b x.2 y.2
  | .sl _, _, _ => false

def bits (f : ∀ n, BitVec n → BitVec n → BitVec n) (k : IntKind) (a b : Int) : Int := k.wrap (f k.bits (BitVec.ofInt k.bits a) (BitVec.ofInt k.bits b)).toNat

def binI (op : BinOp) (k : IntKind) (a b : Int) : Option Ef :=
  match op with
  | .add => some (.val (vI k (k.wrap (a + b))))
  | .sub => some (.val (vI k (k.wrap (a - b))))
  | .mul => some (.val (vI k (k.wrap (a * b))))
  | .quo => some (.chk (decide (b ≠ 0)) (vI k (k.wrap (a.tdiv b))))
  | .rem => some (.chk (decide (b ≠ 0)) (vI k (a.tmod b)))
  | .and => some (.val (vI k (bits (fun _ => (· &&& ·)) k a b)))
  | .or => some (.val (vI k (bits (fun _ => (· ||| ·)) k a b)))
  | .xor => some (.val (vI k (bits (fun _ => (· ^^^ ·)) k a b)))
  | .shr => some (.chk (decide (0 ≤ b)) (vI k (a.fdiv (2 ^ (min b.toNat k.bits)))))
  | .shl => some (.chk (decide (0 ≤ b)) (vI k (k.wrap (a * 2 ^ (min b.toNat k.bits)))))
  | .eql => some (.val (vB (a == b)))
  | .neq => some (.val (vB (a != b)))
  | .lss => some (.val (vB (decide (a < b))))
  | .leq => some (.val (vB (decide (a ≤ b))))
  | .gtr => some (.val (vB (decide (a > b))))
  | .geq => some (.val (vB (decide (a ≥ b))))
  | _ => none

def binS (op : BinOp) (a b : ByteArray) : Option Ef :=
  match op with
  | .add => some (.chk (decide (a.size + b.size < 4294967296)) (vS (a ++ b)))
  | .eql => some (.val (vB (a.toList == b.toList)))
  | .neq => some (.val (vB (!(a.toList == b.toList))))
  | .lss => some (.val (vB (Op.bytesLess a.toList b.toList)))
  | .leq => some (.val (vB (Op.bytesLess a.toList b.toList || a.toList == b.toList)))
  | .gtr => some (.val (vB (!(Op.bytesLess a.toList b.toList || a.toList == b.toList))))
  | .geq => some (.val (vB (!Op.bytesLess a.toList b.toList)))
  | _ => none

def evBin (op : BinOp) (x y : TV) : Option Ef :=
  match x, y with
  | ⟨.int k, a, _⟩, ⟨.int k', b, _⟩ => if k = k' || op = .shl || op = .shr then binI op k a b else none
  | ⟨.str, a, _⟩, ⟨.str, b, _⟩ => binS op a b
  | ⟨.bool, a, _⟩, ⟨.bool, b, _⟩ => (match op with | .eql => some (.val (vB (a == b))) | .neq => some (.val (vB (!(a == b)))) | _ => none)
  | ⟨.pair a b, x, _⟩, ⟨τ, y, s⟩ => match castV ⟨τ, y, s⟩ (.pair a b) with
    | some y => if (Ty.pair a b).flat then (match op with | .eql => some (.val (vB (eqv (.pair a b) x y))) | .neq => some (.val (vB (!eqv (.pair a b) x y))) | _ => none) else none
    | none => none
  | _, _ => none

/-- The colours within an element of a row. -/
def inCols : M → List Nat
  | .row _ hs _ => hs
  | .sha hs => hs
  | .nst b _ _ _ _ _ => [b]
  | .dead => []

/-- Struct literals: parts put into the zero value. -/
def evBuild (C : Cx) (R : Rd) (G : Option (Nat × Bool)) (i : TI) : List (Nat × Operand) → i.τ.den → Sh → Option (i.τ.den × Sh)
  | [], x, sh => some (x, sh)
  | (j, o) :: l, x, sh => match i.fs[j]? with
    | none => none
    | some ft => match argD C R G ft o with
      | none => none
      | some v => match putV i.τ x sh (fpath i.fs.length j) v with
        | some (y, s) => evBuild C R G i l y s
        | none => none

/-- Slice literals. -/
def evList (C : Cx) (R : Rd) (G : Option (Nat × Bool)) (el : TypeId) (e : Ty) : Nat → List (Nat × Operand) → Option (List e.den × List Sh)
  | _, [] => some ([], [])
  | n, (j, o) :: l => if j = n then (match argD C R G el o with
      | none => none
      | some v => match castV v e, evList C R G el e (n + 1) l with
        | some x, some (xs, ss) => some (x :: xs, v.sh :: ss)
        | _, _ => none) else none

def allOwn : List Sh → Option (List Nat)
  | [] => some []
  | s :: l => match s.own, allOwn l with
    | some x, some y => if x.all (!y.contains ·) then some (x ++ y) else none
    | _, _ => none

/-- The memory of a slice literal. -/
def litM (tk : Nat) (ss : List Sh) : M :=
  match allOwn ss with
  | some ts => .row tk ts true
  | none => .row tk (ss.flatMap Sh.cols).eraseDups false

/-- The memory of an appended row: what is killed; what is handed over to it; its shape. -/
def appM (tk : Nat) (flat : Bool) (s y : M) : Option (List Nat × List Nat × M) :=
  match s with
  | .row t hs nd =>
    if flat then some ([t], [t], .row tk [] true) else
    if y.cols.contains t then none else
    (match (M.row t hs nd).own, y.own with
    | some a, some b => if b.all (!a.contains ·) then some ([t], a ++ b, .row tk [tk] true) else none
    | _, _ => some ([t], [t], .row tk (ren [t] tk (hs ++ inCols y)) false))
  | .sha [] =>
    if flat then some ([], [], .row tk [] true) else
    (match y.own with
    | some b => some ([], b, .row tk [tk] true)
    | none => some ([], [], .row tk (inCols y) false))
  | _ => none

def evBuiltin (C : Cx) (R : Rd) (tk : Nat) (G : Option (Nat × Bool)) (b : Builtin) (args : List Operand) (ts : List TypeId) : Option Ef :=
  match b, args, ts with
  | .len, [x], [t] => (match C.tt t with
    | none => none
    | some ti => match argD C R G t x with
      | some ⟨.sl e, l, _⟩ => if ti.τ = .sl e then some (.val (vI .i64 (l.length : Int))) else none
      | some ⟨.str, s, _⟩ => if ti.τ = .str then some (.val (vI .i64 (s.size : Int))) else none
      | _ => none)
  | .min, [x, y], [t, u] => (match argD C R G t x, argD C R G u y with
    | some ⟨.int k, a, _⟩, some ⟨.int k', b, _⟩ => if k = k' then some (.val (vI k (if b < a then b else a))) else none
    | _, _ => none)
  | .max, [x, y], [t, u] => (match argD C R G t x, argD C R G u y with
    | some ⟨.int k, a, _⟩, some ⟨.int k', b, _⟩ => if k = k' then some (.val (vI k (if b > a then b else a))) else none
    | _, _ => none)
  | .append, [x, y], [t, u] => (match C.tt t, argD C R G t x, argD C R G u y with
    | some ti, some ⟨.sl e, l, .sl m⟩, some ⟨.sl e', l', .sl m'⟩ =>
      (match castV ⟨.sl e', l', .leaf⟩ (.sl e) with
      | some l2 => (match appM tk e.flat m m' with
        | some (kl, gv, mm) => if ti.τ = .sl e && u = t then some (.app (decide (l.length + l2.length < 4294967296)) kl gv tk (.d ⟨.sl e, l ++ l2, .sl mm⟩)) else none
        | none => none)
      | none => none)
    | _, _, _ => none)
  | _, _, _ => none

/- calls -/
def fitsPt : Pt → Sh → Bool
  | .leaf, .leaf => true
  | .own, .sl m => m.own.isSome
  | .shr, .sl m => m ≠ .dead
  | .pv, .sl m => m.priv.isSome
  | .hd, .sl (.row _ _ _) => true
  | .hd, .sl (.sha []) => true
  | .pair a b, .pair x y => fitsPt a x && fitsPt b y
  | _, _ => false

def ptShape : Pt → Nat → List Nat → Sh × Nat
  | .leaf, tk, _ => (.leaf, tk)
  | .own, tk, _ => (.sl (.row tk [tk] true), tk + 1)
  | .shr, tk, hs => (.sl (.sha hs), tk)
  | .hd, tk, hs => (.sl (.row tk (tk :: hs) false), tk + 1)
  | .pv, tk, _ => (.sl (.row tk [tk] false), tk + 1)
  | .pair a b, tk, hs => let x := ptShape a tk hs; let y := ptShape b x.2 hs; (.pair x.1 y.1, y.2)

/-- What becomes of the colours of a value that is handed over in canonical tokens. -/
def ptRho (sm : Nat → Nat) : Pt → Sh → Nat → List (Nat × Nat)
  | .own, .sl m, tk => (m.own.getD []).map fun c => (c, tk)
  | .shr, .sl m, _ => m.cols.map fun c => (c, sm c)
  | .pv, .sl m, tk => (m.priv.getD []).map fun c => (c, tk)
  | .hd, .sl (.row t hs _), tk => (t, tk) :: (hs.filter (· ≠ t)).map fun c => (c, sm c)
  | .pair a b, .pair x y, tk => ptRho sm a x tk ++ ptRho sm b y (ptShape a tk []).2
  | _, _, _ => []

/-- Each colour goes to one. -/
def rhoOk (r : List (Nat × Nat)) : Bool := r.all fun p => r.lookup p.1 == some p.2

def boxOf (R : Rd) : SV → Option (Nat × Nat × TV)
  | .ptr t 0 [] _ => (R.box t).map fun r => (t, r.1, r.2)
  | _ => none

/-- The values that are handed in; their colours; the boxes. -/
def vxC (r0 : List (Nat × Nat)) (l : List Nat) (c : Nat) : Nat := match r0.lookup c with | some k => if l.contains k then k else 1 | none => 1

def gather (R : Rd) : (ps : List PK) → List SV → Nat → List (Nat × Nat) → Option (TupD (ps.map PK.ty) × List (Nat × Nat) × List (Nat × Nat))
  | [], [], _, _ => some ((), [], [])
  | .val τ p :: ps, .d v :: as, tk, r0 => match castV v τ, gather R ps as (ptShape p tk []).2 (r0 ++ ptRho (fun _ => 1) p v.sh tk) with
    | some x, some (xs, rho, bs) => if fitsPt p v.sh then some ((x, xs), ptRho (fun _ => 1) p v.sh tk ++ rho, bs) else none
    | _, _ => none
  | .io τ p :: ps, a :: as, tk, r0 => match boxOf R a with
    | some (t, s, v) => (match castV v τ, gather R ps as (ptShape p (tk + 1) []).2 (r0 ++ (t, tk) :: ptRho (fun _ => 1) p v.sh (tk + 1)) with
      | some x, some (xs, rho, bs) => if fitsPt p v.sh then some ((x, xs), (t, tk) :: ptRho (fun _ => 1) p v.sh (tk + 1) ++ rho, (t, s) :: bs) else none
      | _, _ => none)
    | none => none
  | .rd τ :: ps, a :: as, tk, r0 => match boxOf R a with
    | some (t, _, v) => (match castV v τ, gather R ps as tk r0 with
      | some x, some (xs, rho, bs) => if fitsPt (shrPt τ) v.sh then some ((x, xs), (t, 1) :: ptRho (fun _ => 1) (shrPt τ) v.sh tk ++ rho, bs) else none
      | _, _ => none)
    | none => none
  | .vx e l :: ps, .d v :: as, tk, r0 => match castV v (.sl e), gather R ps as tk r0 with
    | some x, some (xs, rho, bs) => if fitsPt .shr v.sh then some ((x, xs), ptRho (vxC r0 l) .shr v.sh tk ++ rho, bs) else none
    | _, _ => none
  | _, _, _, _ => none

/-- The results' values and shapes, and what is left. -/
def scatter : (rs : List RK) → (rest : List Ty) → TupD (rs.map RK.ty ++ rest) → Nat → List Nat → List SV × TupD rest × Nat
  | [], _, r, tk, _ => ([], r, tk)
  | .val τ p :: rs, rest, r, tk, hs => let s := ptShape p tk hs; let z := scatter rs rest r.2 s.2 hs; (.d ⟨τ, r.1, s.1⟩ :: z.1, z.2)
  | .nbox τ p :: rs, rest, r, tk, hs => let s := ptShape p (tk + 1) hs; let z := scatter rs rest r.2 s.2 hs; (.box tk ⟨τ, r.1, s.1⟩ :: z.1, z.2)

/-- What the pointed-to parameters have become. -/
def iosOf (hs : List Nat) : (ps : List PK) → TupD (ioTys ps) → List (Nat × Nat) → Nat → List (Nat × Nat × TV)
  | [], _, _, _ => []
  | .val _ _ :: ps, r, bs, tk => iosOf hs ps r bs tk
  | .io τ p :: ps, r, (t, s) :: bs, tk => let z := ptShape p tk hs; (t, s, ⟨τ, r.1, z.1⟩) :: iosOf hs ps r.2 bs z.2
  | .io _ _ :: _, _, [], _ => []
  | .rd _ :: ps, r, bs, tk | .vx _ _ :: ps, r, bs, tk => iosOf hs ps r bs tk

/-- The tokens that results take, and pointed-to parameters behind a call. -/
def resNt : List RK → Nat → Nat
  | [], tk => tk
  | .val _ p :: rs, tk => resNt rs (ptShape p tk []).2
  | .nbox _ p :: rs, tk => resNt rs (ptShape p (tk + 1) []).2

def ioNt : List PK → Nat → Nat
  | [], tk => tk
  | .val _ _ :: ps, tk => ioNt ps tk
  | .io _ p :: ps, tk => ioNt ps (ptShape p tk []).2
  | .rd _ :: ps, tk | .vx _ _ :: ps, tk => ioNt ps tk

def ptNext (p : Pt) (tk : Nat) : Nat := (ptShape p tk []).2

/- the tokens with which a function begins -/
def entNt : List PK → Nat → Nat
  | [], tk => tk
  | .val _ p :: ps, tk => entNt ps (ptNext p tk)
  | .io _ p :: ps, tk => entNt ps (ptNext p (tk + 1))
  | .rd _ :: ps, tk | .vx _ _ :: ps, tk => entNt ps tk

def boxToks : List PK → Nat → List Nat
  | [], _ => []
  | .val _ p :: ps, tk => boxToks ps (ptNext p tk)
  | .io _ p :: ps, tk => tk :: boxToks ps (ptNext p (tk + 1))
  | .rd _ :: ps, tk | .vx _ _ :: ps, tk => boxToks ps tk

/-- The tokens in whose rows parameters may share. -/
def vxs : List PK → List Nat
  | [] => []
  | .vx _ l :: ps => l ++ vxs ps
  | .val _ _ :: ps | .io _ _ :: ps | .rd _ :: ps => vxs ps

def hasRd : List PK → Bool
  | [] => false
  | .rd _ :: _ => true
  | .val _ _ :: ps | .io _ _ :: ps | .vx _ _ :: ps => hasRd ps

def RK.pt : RK → Pt
  | .val _ p | .nbox _ p => p

def ioShr : List PK → Bool
  | [] => false
  | .io _ p :: ps => p.hasShr || ioShr ps
  | .val _ _ :: ps | .rd _ :: ps | .vx _ _ :: ps => ioShr ps

/-- Whether a contract's new kinds of parameters are in order. -/
def conOk (ps : List PK) (rs : List RK) : Bool :=
  (vxs ps).all (fun c => 3 ≤ c && c < entNt ps 3 && !(boxToks ps 3).contains c) && (!hasRd ps || !(rs.any (fun r => r.pt.hasShr) || ioShr ps))

/-- The token of the row at a place. -/
def rowTok : Sh → List Bool → Option Nat
  | .sl (.row t _ _), [] => some t
  | .pair a _, false :: p => rowTok a p
  | .pair _ b, true :: p => rowTok b p
  | _, _ => none

/-- The rows whose heads a call keeps: their tokens ahead of it and behind it. -/
def rpOf (R : Rd) (bs : List (Nat × Nat)) (IO : List (Nat × Nat × TV)) (kp : List (Nat × List Bool)) : List (Nat × Nat) :=
  kp.filterMap fun q => match bs[q.1]?, IO[q.1]? with
    | some b, some z => (match R.box b.1 with
      | some r => (match rowTok r.2.sh q.2, rowTok z.2.2.sh q.2 with
        | some u, some u' => some (u, u')
        | _, _ => none)
      | none => none)
    | _, _ => none

def tupOf : List SV → Option (List TV)
  | [] => some []
  | .d v :: l => (tupOf l).map (v :: ·)
  | _ => none

def resSV : List SV → SV
  | [v] => v
  | l => match tupOf l with | some vs => .tup vs | none => .no

def args_ (C : Cx) (R : Rd) (G : Option (Nat × Bool)) : List Operand → List TypeId → Option (List SV)
  | [], [] => some []
  | x :: xs, t :: ts => match arg C R G t x, args_ C R G xs ts with | some v, some vs => some (v :: vs) | _, _ => none
  | _, _ => none

def evCall (C : Cx) (R : Rd) (tk : Nat) (G : Option (Nat × Bool)) (f : FuncId) (args : List Operand) (ts : List TypeId) : Option Ef :=
  match C.ct f with
  | none => none
  | some c => match args_ C R G args ts with
    | none => none
    | some as => match gather R c.ps as 3 [] with
      | none => none
      | some (xs, rho, bs) =>
        if rhoOk rho && ioNt c.ps (resNt c.rs 0) ≤ 32 && conOk c.ps c.rs then
          let hs := (2 :: (rho.filter (·.2 = 1)).map (·.1)).eraseDups
          let tks := ((rho.filter (3 ≤ ·.2)).map (·.1)).filter fun c => !bs.any (·.1 = c)
          if bs.isEmpty && tks.isEmpty then
            some (.opt _ (TupD.dflt _) (c.F xs) (fun r => resSV (scatter c.rs (ioTys c.ps) r tk hs).1))
          else
            some (.call _ (c.F xs) tks (fun r =>
              let z := scatter c.rs (ioTys c.ps) r tk hs
              (resSV z.1, iosOf hs c.ps z.2.1 bs z.2.2))
              (fun r =>
                let z := scatter c.rs (ioTys c.ps) r tk hs
                rpOf R bs (iosOf hs c.ps z.2.1 bs z.2.2) c.kp))
        else none

/-- What stands in an arm of a choice: under the test itself. -/
def pickArm (ops : List Oper) (c : Operand) (want : Bool) : SV → Option SV
  | .g j w _ v => (match c with | .tmp s => if w = want && (ops[j]?).bind (·.dst) = some s then some v else none | _ => none)
  | v => some v

/-- One operation. -/
def evOp0 (C : Cx) (ops : List Oper) (R : Rd) (tk : Nat) (G : Option (Nat × Bool)) (o : Oper) : Option Ef :=
  match o.op with
  | .move x | .assign x => (arg C R G o.type x).map .val
  | .pick c a b => (match arg C R G 0 c, opnd C R o.type a, opnd C R o.type b with
    | some (.d ⟨.bool, t, _⟩), some a, some b =>
      (match pickArm ops c true a, pickArm ops c false b with
      | some (.d ⟨.bool, p, _⟩), some (.d ⟨.bool, q, _⟩) => some (.val (vB (if t = true then p else q)))
      | _, _ => none)
    | _, _, _ => none)
  | .alloc t => (C.tt t).map fun i => .val (.box tk ⟨i.τ, i.τ.dflt, shOf i.τ (.sha [])⟩)
  | .box t x => (match C.tt t, argD C R G t x with
    | some i, some v => if v.τ = i.τ then some (.val (.box tk v)) else none
    | _, _ => none)
  | .build t ps => (match C.tt t with
    | some i => if i.fs.isEmpty then none else (evBuild C R G i ps.toList i.τ.dflt (shOf i.τ (.sha []))).map fun r => .val (.d ⟨i.τ, r.1, r.2⟩)
    | none => none)
  | .buildSlice t n ps => (match C.tt t with
    | some ⟨.sl e, _, el⟩ => if ps.size = n && n * e.sz ≤ 16777216 then (evList C R G el e 0 ps.toList).map fun r => .val (.d ⟨.sl e, r.1, .sl (litM tk r.2)⟩) else none
    | _ => none)
  | .load t a => (match C.tt t with
    | none => none
    | some ti => match arg C R G 0 a with
      | some (.ptr b o p _) => (match R.box b with
        | some (_, v) => (match subV v.τ v.x v.sh p with
          | some r => if v.τ.off p = o && r.τ = ti.τ then some (.val (.d r)) else none
          | none => none)
        | none => none)
      | some (.ept b e i o p _) => (match R.row b e with
        | some (l, hs, _) => if e.off p = o && e.sub p = some ti.τ then (subV e (l.getD i.toNat e.dflt) (shOf e (.sha (2 :: hs))) p).map fun r => .val (.d r) else none
        | none => none)
      | some (.rdp _ v) => if v.τ = ti.τ then some (.val (.d v)) else none
      | _ => none)
  | .store t a x => (match C.tt t, arg C R G 0 a, argD C R G t x with
    | some ti, some (.ptr b o p _), some v => (match R.box b with
      | some (s, u) => if u.τ.off p = o && v.τ = ti.τ then (putV u.τ u.x u.sh p v).map fun r => .put b s ⟨u.τ, r.1, r.2⟩ else none
      | none => none)
    | some ti, some (.ept b e i o p τ), some v => (match R.row b e with
      | some (l, hs, nd) =>
        if e.off p = o && e.sub p = some τ && v.τ = τ && v.τ = ti.τ then
          let own : Option (List Nat) := if τ.flat then none else match (M.row b hs nd).own, v.sh.own with
            | some a, some c => if c.all (!a.contains ·) then some ((a ++ c).filter (· ≠ b)) else none
            | _, _ => none
          let gv := own.getD []
          let m : M := if own.isSome then .row b [b] true else if τ.flat then .row b hs nd else .row b (hs ++ v.sh.cols).eraseDups false
          if own.isNone && v.sh.cols.contains b then none else
          (putV e (l.getD i.toNat e.dflt) (shOf e (.sha [])) p v).map fun r => .elem gv b e (l.set i.toNat r.1) m
        else none
      | none => none)
    | _, _, _ => none)
  | .nilCheck x => (match arg C R G 0 x with
    | some (.ptr t o p τ) => some (.val (.ptr t o p τ))
    | some (.ept t e i o p τ) => some (.val (.ept t e i o p τ))
    | some (.rdp hs v) => some (.val (.rdp hs v))
    | _ => none)
  | .binOp op t x y u => (match C.tt t, argD C R G t x, argD C R G u y with | some i, some a, some b => if a.τ = i.τ then evBin op a b else none | _, _, _ => none)
  | .unOp op t x => (match op, argD C R G t x with
    | .not, some ⟨.bool, b, _⟩ => some (.val (vB !b))
    | .neg, some ⟨.int k, n, _⟩ => some (.val (vI k (k.wrap (0 - n))))
    | _, _ => none)
  | .convert s d x => (match C.tt s with
    | some si => (match C.tt d, argD C R G s x with
      | some ⟨.int k, _, _⟩, some ⟨.int _, n, _⟩ => some (.val (vI k (k.wrap n)))
      | some ⟨.str, _, _⟩, some ⟨.str, v, _⟩ => some (.val (vS v))
      | some ⟨.str, _, _⟩, some ⟨.sl (.int .u8), l, _⟩ => if si.τ = .sl (.int .u8) then some (.val (vS ⟨(l.map fun n => UInt8.ofNat n.toNat).toArray⟩)) else none
      | _, _ => none)
    | none => none)
  | .makeSlice t n c => (match C.tt t, argD C R G 3 n, argD C R G 3 c with
    | some ⟨.sl e, _, _⟩, some ⟨.int .i64, a, _⟩, some ⟨.int .i64, b, _⟩ => some (.chk (decide (0 ≤ a ∧ a < 4294967296 ∧ b = a)) (.d ⟨.sl e, List.replicate a.toNat e.dflt, .sl (.row tk [tk] true)⟩))
    | _, _, _ => none)
  | .slice t x lo hi mx => (match C.tt t with
    | none => none
    | some ti => match argD C R G t x, lo.map (argD C R G 3), hi.map (argD C R G 3), mx with
      | some ⟨.sl e, l, .sl m⟩, none, none, none => if ti.τ = .sl e then some (.val (.d ⟨.sl e, l, .sl (.sha m.cols)⟩)) else none
      | some ⟨.sl e, l, .sl m⟩, some (some ⟨.int .i64, a, _⟩), none, none => if ti.τ = .sl e then some (.chk (decide (0 ≤ a ∧ a ≤ l.length)) (.d ⟨.sl e, l.drop a.toNat, .sl (.sha m.cols)⟩)) else none
      | some ⟨.sl e, l, .sl m⟩, none, some (some ⟨.int .i64, b, _⟩), none => if ti.τ = .sl e then some (.chk (decide (0 ≤ b ∧ b ≤ l.length)) (.d ⟨.sl e, l.take b.toNat, .sl (.sha m.cols)⟩)) else none
      | some ⟨.sl e, l, .sl m⟩, some (some ⟨.int .i64, a, _⟩), some (some ⟨.int .i64, b, _⟩), none => if ti.τ = .sl e then some (.chk (decide (0 ≤ a ∧ a ≤ b ∧ b ≤ l.length)) (.d ⟨.sl e, (l.take b.toNat).drop a.toNat, .sl (.sha m.cols)⟩)) else none
      | some ⟨.str, s, _⟩, some (some ⟨.int .i64, a, _⟩), none, none => if ti.τ = .str then some (.chk (decide (0 ≤ a ∧ a ≤ s.size)) (vS (s.extract a.toNat s.size))) else none
      | some ⟨.str, s, _⟩, none, some (some ⟨.int .i64, b, _⟩), none => if ti.τ = .str then some (.chk (decide (0 ≤ b ∧ b ≤ s.size)) (vS (s.extract 0 b.toNat))) else none
      | some ⟨.str, s, _⟩, some (some ⟨.int .i64, a, _⟩), some (some ⟨.int .i64, b, _⟩), none => if ti.τ = .str then some (.chk (decide (0 ≤ a ∧ a ≤ b ∧ b ≤ s.size)) (vS (s.extract a.toNat b.toNat))) else none
      | _, _, _, _ => none)
  | .fieldAddr s x j => (match C.tt s with
    | none => none
    | some i => if j < i.fs.length then
        (match i.τ.sub (fpath i.fs.length j), arg C R G 0 x with
        | some σ, some (.ptr t o p τ) => if τ = i.τ then some (.val (.ptr t (o + i.τ.off (fpath i.fs.length j)) (p ++ fpath i.fs.length j) σ)) else none
        | some σ, some (.ept t e n o p τ) => if τ = i.τ then some (.val (.ept t e n (o + i.τ.off (fpath i.fs.length j)) (p ++ fpath i.fs.length j) σ)) else none
        | some _, some (.rdp hs v) => if v.τ = i.τ then (subV v.τ v.x v.sh (fpath i.fs.length j)).map fun r => .val (.rdp hs r) else none
        | _, _ => none) else none)
  | .field s x j => (match C.tt s, argD C R G s x with
    | some i, some v => if v.τ = i.τ && j < i.fs.length then (subV v.τ v.x v.sh (fpath i.fs.length j)).map fun r => .val (.d r) else none
    | _, _ => none)
  | .indexAddr t x n => (match C.tt t, argD C R G t x, argD C R G 3 n with
    | some ti, some ⟨.sl e, l, .sl (.row u _ _)⟩, some ⟨.int _, i, _⟩ => if ti.τ = .sl e then some (.chk (decide (0 ≤ i ∧ i < l.length)) (.ept u e i 0 [] e)) else none
    | some ti, some ⟨.sl e, l, .sl (.sha hs)⟩, some ⟨.int _, i, _⟩ => if ti.τ = .sl e then some (.chk (decide (0 ≤ i ∧ i < l.length)) (.rdp hs ⟨e, l.getD i.toNat e.dflt, shOf e (.sha (2 :: hs))⟩)) else none
    | _, _, _ => none)
  | .index t x n => (match C.tt t, argD C R G t x, argD C R G 3 n with
    | some ti, some ⟨.str, s, _⟩, some ⟨.int _, i, _⟩ => if ti.τ = .str then some (.chk (decide (0 ≤ i ∧ i < s.size)) (vI .u8 (bt s i))) else none
    | _, _, _ => none)
  | .extract x j => (match arg C R G 0 x with
    | some (.tup l) => (l[j]?).map fun v => .val (.d v)
    | _ => none)
  | .call c => (match c.callee with
    | .builtin b => evBuiltin C R tk G b c.args.toList c.argTypes.toList
    | .value (.func f) => evCall C R tk G f c.args.toList c.argTypes.toList
    | _ => none)
  | _ => none

/-- Whether an operation appends to what stands in a slot. -/
def asksApp (ops : List Oper) (d : Option Nat) : Bool :=
  ops.any fun q => match q.op, d with
    | .call c, some d => (match c.callee, c.args.toList with | .builtin .append, [.tmp x, _] => x = d | _, _ => false)
    | _, _ => false

/-- Slices within elements of an own row that are appended to in place: the load, the append, the store. -/
def nestOp (C : Cx) (ops : List Oper) (R : Rd) (tk : Nat) (o : Oper) : Option Ef :=
  match o.op with
  | .load t a => (match C.tt t, arg C R none 0 a with
    | some ti, some (.ept b e i off p _) => (match R.row b e with
      | some (l, hs, nd) => if nd && hs.all (· = b) && asksApp ops o.dst && e.off p = off && e.sub p = some ti.τ then
          (match subV e (l.getD i.toNat e.dflt) (shOf e (.sha [b])) p with
          | some ⟨.sl σ, x, _⟩ => some (.val (.d ⟨.sl σ, x, .sl (.nst b e i off p true)⟩))
          | _ => none) else none
      | none => none)
    | _, _ => none)
  | .store t a x => (match C.tt t, arg C R none 0 a, argD C R none t x with
    | some ti, some (.ept b e i off p τ), some ⟨.sl σ, y, .sl (.nst b' e' i' off' p' _)⟩ => (match R.row b e with
      | some (l, hs, nd) => if nd && hs.all (· = b) && b' = b && e' = e && off' = off && p' = p && e.off p = off && e.sub p = some τ && Ty.sl σ = τ && τ = ti.τ then
          (putV e (l.getD i.toNat e.dflt) (shOf e (.sha [])) p ⟨.sl σ, y, .sl (.sha [])⟩).map fun r => .nap (decide (i = i')) [] b e (l.set i.toNat r.1) (.row b [b] true) .no
        else none
      | none => none)
    | _, _, _ => none)
  | .call c => (match c.callee, c.args.toList, c.argTypes.toList with
    | .builtin .append, [x, y], [t, u] => (match C.tt t, argD C R none t x, argD C R none u y with
      | some ti, some ⟨.sl e, l, .sl (.nst b E i off p true)⟩, some ⟨.sl e', l', .sl m'⟩ => (match castV ⟨.sl e', l', .leaf⟩ (.sl e), R.row b E, m'.own with
        | some l2, some (L, hs, nd), some ys => if nd && hs.all (· = b) && !ys.contains b && ti.τ = .sl e && u = t then
            some (.nap (decide (l.length + l2.length < 4294967296)) (tk :: ys) b E L (.row b [b] true) (.d ⟨.sl e, l ++ l2, .sl (.nst b E i off p false)⟩)) else none
        | _, _, _ => none)
      | _, _, _ => none)
    | _, _, _ => none)
  | _ => none

def evOp (C : Cx) (ops : List Oper) (R : Rd) (tk : Nat) (G : Option (Nat × Bool)) (o : Oper) : Option Ef :=
  match G with
  | none => (match nestOp C ops R tk o with | some ef => some ef | none => evOp0 C ops R tk none o)
  | some g => evOp0 C ops R tk (some g) o

/-- Whether an operation is come to: 'none': it can't be told; else nothing, or the test. -/
def guardOf (ops : List Oper) (R : Rd) : Option (Nat × Bool) → Option (Option Bool)
  | none => some none
  | some (j, w) => match (ops[j]?).bind (·.dst) with
    | none => none
    | some s => match R.get s with
      | .d ⟨.bool, b, _⟩ => some (some (b == w))
      | .g _ _ a (.d ⟨.bool, b, _⟩) => some (some (a && (b == w)))
      | _ => none

def SV.isBox : SV → Bool
  | .box _ _ => true
  | _ => false

def SV.noG : SV → SV
  | .g _ _ _ _ => .no
  | v => v

def wrapG (G : Option (Nat × Bool)) (a : Option Bool) (v : SV) : SV :=
  match G, a with | some (j, w), some b => if v.isBox then .no else .g j w b v | _, _ => v.noG

/-- The surroundings behind what writes. -/
def putBoxes : List (Nat × Nat × TV) → List SV → List SV
  | [], E => E
  | (t, s, v) :: l, E => putBoxes l (E.set s (.box t v))

def Env.elem (E : Env) (gv : List Nat) (b : Nat) (e : Ty) (l : List e.den) (m : M) : Env :=
  { E with s := E.s.map fun s => ((s.give gv b).killSha b).setRow b e l m }

section
variable {ρ : Type}

def applyEf (o : Oper) (a : Option Bool) (E : Env) (k : Env → Option ρ) : Ef → Option ρ
  | .val v => k (E.set o.dst (wrapG o.guard a v))
  | .chk c v => if (match a with | none => c | some b => !b || c) = true then k (E.set o.dst (wrapG o.guard a v)) else none
  | .opt _ z x f => (match a with | none => x | some b => if b = true then x else some z).bind fun r => k (E.set o.dst (wrapG o.guard a (f r)))
  | .put b s v => if a.isNone && o.dst.isNone then k { E with s := E.s.set s (.box b v) } else none
  | .app c kl gv t v => if a.isNone then (if c = true then k (((E.kill kl).give gv t).set o.dst v.noG) else none) else none
  | .elem gv b e l m => if a.isNone && o.dst.isNone then k (E.elem gv b e l m) else none
  | .nap c gv b e l m v => if a.isNone then (if c = true then k ((E.elem gv b e l m).set o.dst v.noG) else none) else none
  | .call _ x tks f rp => if a.isNone then x.bind fun r => let E1 := E.killR tks (rp r); k (Env.set { E1 with s := putBoxes (f r).2 E1.s } o.dst (f r).1.noG) else none

def evOps (C : Cx) (ops : List Oper) (nt : Nat) : List Oper → Nat → Env → (Env → Option ρ) → Option ρ
  | [], _, E, k => k E
  | o :: l, i, E, k => match guardOf ops E.rd o.guard with
    | none => none
    | some a => match evOp C ops E.rd (nt + 32 * i) o.guard o with
      | none => none
      | some ef => applyEf o a E (fun E' => evOps C ops nt l (i + 1) E' k) ef
end

/-- No slot that a guard asks for is written twice. -/
def guardsOk (ops : List Oper) : Bool :=
  ops.zipIdx.all fun p => match p.1.guard with
    | none => true
    | some (j, _) => j < p.2 && match (ops[j]?).bind (·.dst) with
      | none => false
      | some d => ops.zipIdx.all fun q => q.2 = j || q.1.dst ≠ some d

/-- Slots that no operation writes. -/
def keeps (io : List Nat) (ops : List Oper) : Bool := ops.all fun o => match o.dst with | some d => !io.contains d | none => true

def clearG (E : Env) (ops : List Oper) : Env :=
  if ops.all (·.guard.isNone) then E else { E with s := E.s.map SV.noG }

section
variable {ρ : Type}
def loopN {σ : Type} : Nat → ((σ → Option ρ) → σ → Option ρ) → σ → Option ρ
  | 0, _, _ => none
  | n + 1, f, s => f (loopN n f) s

def joinC {σ : Type} (a : (σ → Option ρ) → Option ρ) (b : σ → Option ρ) : Option ρ := a b
end

end Vg

/- VG, part 2b: effects in one form; what is told of an operation where its place is not told. -/
namespace Vg
open Go

/-- What an effect does to each slot. -/
inductive Tr : Type 1 where
  | id
  | kg (kl gv : List Nat) (t : Nat)
  | el (gv : List Nat) (b : Nat) (e : Ty) (l : List e.den) (m : M)
  | ki (ts : List Nat) (rp : List (Nat × Nat))

def killN (ts : List Nat) (v : SV) : SV := if ts.isEmpty then v else v.kill ts
def giveN (ts : List Nat) (t : Nat) (v : SV) : SV := if ts.isEmpty then v else v.give ts t

def Tr.sv : Tr → SV → SV
  | .id => fun v => v
  | .kg ks gv t => fun v => giveN gv t (killN ks v)
  | .el gv b e l m => fun v => ((v.give gv b).killSha b).setRow b e l m
  | .ki ts rp => fun v => if rp.isEmpty then killN ts v else v.killR ts rp

def Tr.isId : Tr → Bool
  | .id => true
  | .kg ks gv _ => ks.isEmpty && gv.isEmpty
  | .ki ts rp => ts.isEmpty && rp.isEmpty
  | _ => false

def Tr.touched : Tr → List Nat
  | .id => []
  | .kg ks gv t => t :: (ks ++ gv)
  | .el gv b _ _ _ => b :: gv
  | .ki ts rp => ts ++ (rp.map (·.1) ++ rp.map (·.2))

/-- The rows pointers into which do not stay. -/
def Tr.hurts : Tr → List Nat
  | .id => []
  | .kg ks gv t => t :: (ks ++ gv)
  | .el gv _ _ _ _ => gv
  | .ki ts rp => ts ++ (rp.map (·.1) ++ rp.map (·.2))

def Tr.ok : Tr → Bool
  | .el _ b _ _ m => m.cols.contains b
  | _ => true

def wr (d : Option Nat) (v : SV) : List (Nat × SV) := match d with | some d => [(d, v)] | none => []

def effOf (o : Oper) (a : Option Bool) : Ef → Option (Tr × List (Nat × SV))
  | .val v => some (.id, wr o.dst (wrapG o.guard a v))
  | .chk c v => if (match a with | none => c | some b => !b || c) = true then some (.id, wr o.dst (wrapG o.guard a v)) else none
  | .opt _ z x f => (match a with | none => x | some b => if b = true then x else some z).bind fun r => some (.id, wr o.dst (wrapG o.guard a (f r)))
  | .put b s v => if a.isNone && o.dst.isNone then some (.id, [(s, .box b v)]) else none
  | .app c kl gv t v => if a.isNone then (if c = true then some (.kg kl gv t, wr o.dst v.noG) else none) else none
  | .elem gv b e l m => if a.isNone && o.dst.isNone then some (.el gv b e l m, []) else none
  | .nap c gv b e l m v => if a.isNone then (if c = true then some (.el gv b e l m, wr o.dst v.noG) else none) else none
  | .call _ x tks f rp => if a.isNone then x.bind fun r => some (.ki tks (rp r), (f r).2.map (fun p => (p.2.1, SV.box p.1 p.2.2)) ++ wr o.dst (f r).1.noG) else none

/-- The same, with what comes behind. -/
def effK {ρ : Type} (o : Oper) (a : Option Bool) (ef : Ef) (k : Tr × List (Nat × SV) → Option ρ) : Option ρ :=
  match ef with
  | .val v => k (.id, wr o.dst (wrapG o.guard a v))
  | .chk c v => if (match a with | none => c | some b => !b || c) = true then k (.id, wr o.dst (wrapG o.guard a v)) else none
  | .opt _ z x f => (match a with | none => x | some b => if b = true then x else some z).bind fun r => k (.id, wr o.dst (wrapG o.guard a (f r)))
  | .put b s v => if a.isNone && o.dst.isNone then k (.id, [(s, .box b v)]) else none
  | .app c kl gv t v => if a.isNone then (if c = true then k (.kg kl gv t, wr o.dst v.noG) else none) else none
  | .elem gv b e l m => if a.isNone && o.dst.isNone then k (.el gv b e l m, []) else none
  | .nap c gv b e l m v => if a.isNone then (if c = true then k (.el gv b e l m, wr o.dst v.noG) else none) else none
  | .call _ x tks f rp => if a.isNone then x.bind fun r => k (.ki tks (rp r), (f r).2.map (fun p => (p.2.1, SV.box p.1 p.2.2)) ++ wr o.dst (f r).1.noG) else none

def putW (ws : List (Nat × SV)) (L : List SV) : List SV := ws.foldl (fun L p => L.set p.1 p.2) L

def Env.eff (E : Env) (r : Tr × List (Nat × SV)) : Env := { E with s := putW r.2 (E.s.map r.1.sv) }

def SV.toks : SV → List Nat
  | .no => []
  | .d v => v.sh.cols
  | .box t v => t :: v.sh.cols
  | .ptr t _ _ _ => [t]
  | .ept t _ _ _ _ _ => [t]
  | .rdp hs v => hs ++ v.sh.cols
  | .tup l => l.flatMap fun v => v.sh.cols
  | .g _ _ _ v => v.toks

def SV.clean : SV → Bool
  | .no => false
  | .d v | .box _ v | .rdp _ v => v.sh.live
  | .tup l => l.all fun v => v.sh.live
  | .g _ _ _ v => v.clean
  | _ => true

/-- The slots that an operation's operands name. -/
def tmpsOf (o : Oper) : List Nat := o.op.operands.toList.filterMap fun | .tmp s => some s | _ => none

/-- What stands behind a guard. -/
def SV.strip : SV → SV
  | .g _ _ _ v => v
  | v => v

/-- The slots that an operation asks: its operands', its guard's. -/
def opSlots (ops : List Oper) (o : Oper) : List Nat :=
  tmpsOf o ++ (match o.guard with | some (j, _) => ((ops[j]?).bind (·.dst)).toList | none => [])

def askB (E : Env) (o : Oper) : List Nat := (tmpsOf o).filterMap fun s => match (E.rd.get s).strip with | .ptr b _ _ _ => some b | _ => none
/-- The row that is asked for where this value is used. -/
def rowAsk : SV → Option (Nat × Ty)
  | .ept b e _ _ _ _ => some (b, e)
  | .d ⟨_, _, .sl (.nst b e _ _ _ _)⟩ => some (b, e)
  | _ => none
def askR (E : Env) (o : Oper) : List (Nat × Ty) := (tmpsOf o).filterMap fun s => rowAsk (E.rd.get s).strip

/-- The slot in which a row is found. -/
def rowSlot (t : Nat) (e : Ty) : List SV → Nat → Option Nat
  | [], _ => none
  | .d v :: l, i | .box _ v :: l, i => if (rowIn t e v.τ v.x v.sh).isSome then some i else rowSlot t e l (i + 1)
  | _ :: l, i => rowSlot t e l (i + 1)

/-- What may be written over: nothing that boxes or rows are looked for in; or a box by itself. -/
def dzv (v q : SV) : Bool :=
  match v with
  | .no | .ept _ _ _ _ _ _ | .rdp _ _ => true
  | .box t _ => (match q with | .box t' _ => t = t' | _ => false)
  | v => v.clean && v.toks.isEmpty

/-- Whether an operation looks at what its pointers point to. -/
def derefs (o : Oper) : Bool := match o.op with | .move _ | .assign _ | .nilCheck _ | .fieldAddr _ _ _ => false | _ => true

/-- The tokens of a pointer into a row; of all else. -/
def SV.toksE : SV → List Nat
  | .ept t _ _ _ _ _ => [t]
  | _ => []
def SV.toksN : SV → List Nat
  | .ept _ _ _ _ _ _ => []
  | v => v.toks

structure Lab : Type 1 where
  i : Nat
  rs : List Nat
  ra : List Nat
  te : List Nat
  tk : List Nat
  cl : Bool
  bx : List Nat
  rw : List (Nat × Nat)
  fd : Bool
  dz : Bool
  T : Tr
  ws : List (Nat × SV)
  nb : List Nat
  cp : Option (Nat × Nat × Option Nat × Bool)

/-- A box is put anew. -/
def sameBox (v q : SV) : Bool := match v, q with | .box t u, .box t' u' => t = t' && u.τ = u'.τ | _, _ => false

/-- An operation that copies a slot, or a part of it, into another one. -/
def cpOf (o : Oper) : Option (Nat × Nat × Option Nat) :=
  match o.guard, o.dst with
  | none, some d => (match o.op with
    | .move (.tmp s) | .assign (.tmp s) => some (d, s, none)
    | .extract (.tmp s) j => some (d, s, some j)
    | _ => none)
  | _, _ => none

def cpV (j : Option Nat) (v : SV) : Option SV :=
  match j with
  | none => (match v with | .g _ _ _ _ => none | v => some (alias_ v))
  | some j => (match v with | .tup l => (l[j]?).map .d | _ => none)

/-- In what is copied no row is looked for. -/
def cpE : SV → Bool
  | .d v => v.τ.flat
  | .no | .ptr _ _ _ _ | .ept _ _ _ _ _ _ | .rdp _ _ => true
  | _ => false

def labOf (ops : List Oper) (i : Nat) (o : Oper) (E : Env) (r : Tr × List (Nat × SV)) : Lab :=
  let b := if derefs o = true then askB E o else []
  let q := if derefs o = true then askR E o else []
  let rw := q.filterMap fun p => (rowSlot p.1 p.2 E.s 0).map fun s => (p.1, s)
  let ra := (opSlots ops o).filter fun s => (E.get s).isBox
  let rs := (opSlots ops o).filter (fun s => !(E.get s).isBox) ++ b.filterMap (fun t => (findBox E.s t 0).map (·.1)) ++ rw.map (·.2)
  ⟨i, rs, ra, rs.flatMap fun s => (E.get s).toksE, rs.flatMap fun s => (E.get s).toksN, rs.all fun s => (E.get s).clean, b, rw,
    rw.length = q.length && b.all (fun t => (findBox E.s t 0).isSome),
    r.2.all (fun p => dzv (E.get p.1) p.2), r.1, r.2, (r.2.filter fun p => !sameBox (E.get p.1) p.2).map (·.1), none⟩

def labOf1 (ops : List Oper) (i : Nat) (o : Oper) (E : Env) (r : Tr × List (Nat × SV)) : Lab :=
  match cpOf o with
  | some (d, s, j) => ⟨i, [], [], [], [], true, [], [], true, dzv (E.get d) .no, .id, [], [], some (d, s, j, match cpV j (E.get s) with | some x => cpE x | none => false)⟩
  | none => labOf ops i o E r

/-- b does not mind a. -/
def Lab.free (a b : Lab) : Bool :=
  a.ws.all (fun p => !b.rs.contains p.1 && !b.ra.contains p.1 && b.ws.all (fun q => q.1 ≠ p.1) &&
    (match p.2 with | .box t _ => !b.bx.contains t | _ => true) && b.rw.all (fun q => q.2 < p.1 || !(p.2.isBox || p.2.toks.contains q.1))) &&
  (a.T.isId || (b.rw.isEmpty && b.tk.all (!a.T.touched.contains ·) && b.te.all (!a.T.hurts.contains ·) && b.ws.all fun p => p.2.toksN.all (!a.T.touched.contains ·) && p.2.toksE.all (!a.T.hurts.contains ·)))

def Tr.noEl : Tr → Bool
  | .el _ _ _ _ _ => false
  | _ => true

/-- b does not mind that a comes up ahead of it. -/
def Lab.freeF (a b : Lab) : Bool :=
  a.ws.all (fun p => !b.rs.contains p.1 && !b.ra.contains p.1 && b.ws.all (fun q => q.1 ≠ p.1) &&
    (match p.2 with | .box t _ => !b.bx.contains t | _ => true) && b.rw.all (fun q => q.2 < p.1 || !(p.2.isBox || p.2.toks.contains q.1))) &&
  (a.T.isId || ((b.rw.isEmpty || a.T.noEl) && b.tk.all (!a.T.touched.contains ·) && b.te.all (!a.T.hurts.contains ·) && b.ws.all fun p => p.2.toksN.all (!a.T.touched.contains ·) && p.2.toksE.all (!a.T.hurts.contains ·)))

/-- Two operations, a before b in the text, whose order makes no difference. -/
def Lab.ind (a b : Lab) : Bool :=
  a.free b && b.freeF a && (a.T.isId || b.T.isId) && a.T.ok && b.T.ok && (a.T.isId || b.cl) && a.fd && b.fd && a.dz && b.dz && (a.T.isId || a.rw.isEmpty)

/-- A copy from s into d, and b. -/
def Lab.indC (d s : Nat) (e z : Bool) (b : Lab) : Bool :=
  z && !b.rs.contains d && !b.ra.contains d && b.ws.all (fun q => q.1 ≠ d) && !b.nb.contains s && b.rw.all (fun q => e || q.2 < d) && b.fd && b.dz && b.T.ok

def Lab.ind1 (a b : Lab) : Bool :=
  match a.cp, b.cp with
  | none, none => a.ind b
  | some (d, s, _, e), none => Lab.indC d s e a.dz b
  | none, some (d, s, _, e) => Lab.indC d s e b.dz a
  | some (d, s, _, _), some (d', s', _, _) => d ≠ d' && s ≠ d' && s' ≠ d

end Vg

/- VG, part 3: the evaluator over whole functions: where ways meet, what is kept is named. -/
namespace Vg
open Go

/- where ways meet -/
abbrev Ren := List (Nat × Nat)

def bindTok (r : Ren) (t c : Nat) : Option Ren :=
  match r.lookup t with
  | some c' => if c = c' then some r else none
  | none => if r.any (fun p => p.2 = c) then none else some ((t, c) :: r)

def nilKey (c : Nat) : Nat := 1000000000 + c

def bindM (r : Ren) : M → M → Option Ren
  | .row t _ _, .row c _ _ => bindTok r t c
  | .sha [], .row c _ _ => bindTok r (nilKey c) c
  | .row _ _ _, .sha _ => some r
  | .sha _, .sha _ => some r
  | _, .dead => some r
  | _, _ => none

def bindSh (r : Ren) : Sh → Sh → Option Ren
  | .leaf, .leaf => some r
  | .sl m, .sl m' => bindM r m m'
  | .pair a b, .pair a' b' => (bindSh r a a').bind fun r => bindSh r b b'
  | _, _ => none

def renC (r : Ren) (h : Nat) : Nat := if h ≤ 2 then h else (r.lookup h).getD 2

def okM (r : Ren) : M → M → Bool
  | .row t hs nd, .row c hc nd' => r.lookup t = some c && (!nd' || nd) && hs.all fun h => hc.contains (renC r h)
  | .sha [], .row c _ _ => r.lookup (nilKey c) = some c
  | .row t hs _, .sha hc => (t :: hs).all fun h => hc.contains (renC r h)
  | .sha hs, .sha hc => hs.all fun h => hc.contains (renC r h)
  | _, .dead => true
  | _, _ => false

def okSh (r : Ren) : Sh → Sh → Bool
  | .leaf, .leaf => true
  | .sl m, .sl m' => okM r m m'
  | .pair a b, .pair a' b' => okSh r a a' && okSh r b b'
  | _, _ => false

def bindAK (E : Env) (r : Ren) (s : Nat) : AK → Option Ren
  | .val _ sh => match E.get s with | .d v => bindSh r v.sh sh | _ => none
  | .box c _ sh => match E.get s with | .box t v => (bindTok r t c).bind fun r => bindSh r v.sh sh | _ => none
  | .ptr _ _ _ _ => some r
  | .ept _ _ _ _ _ => some r
  | .rdp _ _ sh => match E.get s with | .rdp _ v => bindSh r v.sh sh | _ => none

def bindAll (E : Env) : Ren → List (Nat × AK) → Option Ren
  | r, [] => some r
  | r, (s, a) :: l => (bindAK E r s a).bind fun r => bindAll E r l

def TupD.app : (a : List Ty) → (b : List Ty) → TupD a → TupD b → TupD (a ++ b)
  | [], _, _, y => y
  | _ :: a, b, x, y => (x.1, TupD.app a b x.2 y)

def TupD.fst : (a : List Ty) → (b : List Ty) → TupD (a ++ b) → TupD a
  | [], _, _ => ()
  | _ :: a, b, x => (x.1, TupD.fst a b x.2)

def TupD.snd : (a : List Ty) → (b : List Ty) → TupD (a ++ b) → TupD b
  | [], _, x => x
  | _ :: a, b, x => TupD.snd a b x.2

/-- What is kept of a slot. -/
def projAK (E : Env) (r : Ren) (s : Nat) : (a : AK) → Option (TupD a.tys)
  | .val τ sh => match E.get s with
    | .d v => if okSh r v.sh sh then (match castV v τ with | some x => some (x, ()) | none => none) else none
    | _ => none
  | .box c τ sh => match E.get s with
    | .box t v => if okSh r v.sh sh && r.lookup t = some c then (match castV v τ with | some x => some (x, ()) | none => none) else none
    | _ => none
  | .ptr c o p τ => match E.get s with
    | .ptr t o' p' τ' => if r.lookup t = some c && o' = o && p' = p && τ' = τ then some () else none
    | _ => none
  | .ept c e o p τ => match E.get s with
    | .ept t e' i o' p' τ' => if r.lookup t = some c && e' = e && o' = o && p' = p && τ' = τ then some (i, ()) else none
    | _ => none
  | .rdp hs τ sh => match E.get s with
    | .rdp hs' v => if okSh r v.sh sh && hs'.all (fun h => hs.contains (renC r h)) then (match castV v τ with | some x => some (x, ()) | none => none) else none
    | _ => none

def annTys : List (Nat × AK) → List Ty
  | [] => []
  | (_, a) :: l => a.tys ++ annTys l

def projAll (E : Env) (r : Ren) : (l : List (Nat × AK)) → Option (TupD (annTys l))
  | [] => some ()
  | (s, a) :: l => match projAK E r s a, projAll E r l with
    | some x, some y => some (TupD.app a.tys (annTys l) x y)
    | _, _ => none

/-- The tokens that a cut names: of boxes; of rows and colours. -/
def AK.bt : AK → List Nat
  | .box c _ _ | .ptr c _ _ _ => [c]
  | _ => []
def AK.sc : AK → List Nat
  | .val _ sh | .box _ _ sh => sh.cols
  | .ept c _ _ _ _ => [c]
  | .rdp hs _ sh => hs ++ sh.cols
  | _ => []

def annOk (a : Ann) : Bool :=
  let b := a.ks.flatMap fun p => p.2.bt
  let c := a.ks.flatMap fun p => p.2.sc
  let s := a.ks.map (·.1)
  3 ≤ a.nt && b.all (fun x => 0 < x && x < a.nt && x ≠ 2) && c.all (fun x => 0 < x && x < a.nt && !b.contains x) && s.eraseDups.length = s.length

def renOk (r : Ren) (nt : Nat) : Bool := r.all fun p => 3 ≤ p.2 && p.2 < nt && r.find? (·.2 = p.2) == some p

def proj (a : Ann) (E : Env) : Option (TupD (annTys a.ks)) :=
  match bindAll E [] a.ks with
  | some r => if E.nt ≤ 1000000000 && annOk a && renOk r a.nt then projAll E r a.ks else none
  | none => none

def akSV : (a : AK) → TupD a.tys → SV
  | .val τ sh, x => .d ⟨τ, x.1, sh⟩
  | .box c τ sh, x => .box c ⟨τ, x.1, sh⟩
  | .ptr c o p τ, _ => .ptr c o p τ
  | .ept c e o p τ, x => .ept c e x.1 o p τ
  | .rdp hs τ sh, x => .rdp hs ⟨τ, x.1, sh⟩

def unprojL : (l : List (Nat × AK)) → TupD (annTys l) → List SV → List SV
  | [], _, E => E
  | (s, a) :: l, x, E => unprojL l (TupD.snd a.tys (annTys l) x) (E.set s (akSV a (TupD.fst a.tys (annTys l) x)))

def unproj (n : Nat) (a : Ann) (x : TupD (annTys a.ks)) : Env := ⟨unprojL a.ks x (List.replicate n .no), a.nt, false⟩

/-- The region with which a piece of code begins. -/
def firstReg : Code → Option Nat
  | .region id _ _ => some id
  | .seq a _ => firstReg a
  | .block _ c => firstReg c
  | .loop c => firstReg c
  | .scope c => firstReg c
  | _ => none

/- regions that draw their order -/

/-- What each operation waits for, straight or by way of others. -/
def befs (ops : List Oper) : List Nat :=
  ops.foldl (fun acc o =>
    acc ++ [((o.after.toList.filter (Region.binds .any)).map (·.on)).foldl (fun m j => m ||| (2 ^ j ||| acc.getD j 0)) 0]) []

def labsOk (ops : List Oper) (labs : List Lab) : Bool :=
  let B := befs ops
  (ops.zipIdx.all fun p => (match p.1.guard with | some (j, _) => (B.getD p.2 0).testBit j | none => true) && p.1.after.toList.all fun e => !Region.binds .any e || e.on < p.2) &&
  labs.all fun b => labs.all fun a => b.i ≤ a.i || (B.getD b.i 0).testBit a.i || a.ind1 b

section
variable {ρ : Type}
/-- The run in the order of the text, with what is told of each operation. -/
def evOpsL (C : Cx) (ops : List Oper) (nt : Nat) : List Oper → Nat → Env → List Lab → (Env → List Lab → Option ρ) → Option ρ
  | [], _, E, L, k => k E L
  | o :: l, i, E, L, k => match guardOf ops E.rd o.guard with
    | none => none
    | some a => match evOp C ops E.rd (nt + 32 * i) o.guard o with
      | none => none
      | some ef => effK o a ef fun r => evOpsL C ops nt l (i + 1) (E.eff r) (labOf1 ops i o E r :: L) k
end

section
variable {ρ : Type}

def ev (C : Cx) : Code → Env → (Env → Option ρ) → List (Nat × (Env → Option ρ)) → (Env → Option ρ) → Option ρ
  | .skip, E, kn, _, _ => kn E
  | .region _ ops draw, E, kn, _, _ => if guardsOk ops.toList && keeps C.io ops.toList then (if draw = true
      then evOpsL C ops.toList E.nt ops.toList 0 E [] (fun E' L => if labsOk ops.toList L then kn { clearG E' ops.toList with nt := E.nt + 32 * ops.size } else none)
      else evOps C ops.toList E.nt ops.toList 0 E (fun E' => kn { clearG E' ops.toList with nt := E.nt + 32 * ops.size })) else none
  | .seq a b, E, kn, ke, kr =>
    match (firstReg b).bind C.ja with
    | none => ev C a E (fun E' => ev C b E' kn ke kr) ke kr
    | some n => joinC (fun J => ev C a E (fun E' => (proj n E').bind J) ke kr) (fun t => ev C b (unproj C.n n t) kn ke kr)
  | .cond c x y, E, kn, ke, kr =>
    match arg C E.rd none 0 c with
    | some (.d ⟨.bool, b, _⟩) => if b = true then ev C x E kn ke kr else ev C y E kn ke kr
    | _ => none
  | .block id c, E, kn, ke, kr => ev C c E kn ((id, kn) :: ke) kr
  | .loop c, E, _, ke, kr =>
    match (firstReg c).bind C.la with
    | none => none
    | some n => (proj n E).bind (loopN C.k (fun G t => ev C c (unproj C.n n t) (fun E' => (proj n E').bind G) ke kr))
  | .exit id, E, _, ke, _ => match ke.lookup id with | some k => k E | none => none
  | .ret, E, _, _, kr => kr E
  | _, _, _, _, _ => none
end

/- whole functions -/

/-- The parameters as they come in. -/
def env0 : (ps : List PK) → TupD (ps.map PK.ty) → Nat → List SV × Nat
  | [], _, tk => ([], tk)
  | .val τ p :: ps, x, tk => let s := ptShape p tk [1]; let r := env0 ps x.2 s.2; (.d ⟨τ, x.1, s.1⟩ :: r.1, r.2)
  | .io τ p :: ps, x, tk => let s := ptShape p (tk + 1) [1]; let r := env0 ps x.2 s.2; (.box tk ⟨τ, x.1, s.1⟩ :: r.1, r.2)
  | .rd τ :: ps, x, tk => let r := env0 ps x.2 tk; (.rdp [1] ⟨τ, x.1, (ptShape (shrPt τ) tk [1]).1⟩ :: r.1, r.2)
  | .vx e l :: ps, x, tk => let r := env0 ps x.2 tk; (.d ⟨.sl e, x.1, .sl (.sha (1 :: l))⟩ :: r.1, r.2)

/-- What becomes of the colours of what is shared in a result. -/
def outC (c : Nat) : Nat := if c = 1 then 1 else 2

/-- The results' values; their colours, in canonical tokens from tk on. -/
def finRs (tt : TypeId → Option TI) (E : Env) : (rs : List RK) → List ResultVar → Nat → Option (TupD (rs.map RK.ty) × List (Nat × Nat) × Nat)
  | [], [], tk => some ((), [], tk)
  | .val τ p :: rs, v :: vs, tk => match (match v with | .tmp s => (match E.get s with | .d t => some t | _ => none) | .cell s ty => (match E.get s, tt ty with | .box _ t, some i => if i.τ = t.τ then some t else none | _, _ => none)) with
    | none => none
    | some t => match castV t τ, finRs tt E rs vs (ptShape p tk []).2 with
      | some x, some (xs, rho, tk') => if fitsPt p t.sh then some ((x, xs), ptRho outC p t.sh tk ++ rho, tk') else none
      | _, _ => none
  | .nbox τ p :: rs, .tmp s :: vs, tk => match boxOf E.rd (E.rd.get s) with
    | none => none
    | some (b, _, t) => match castV t τ, finRs tt E rs vs (ptShape p (tk + 1) []).2 with
      | some x, some (xs, rho, tk') => if fitsPt p t.sh then some ((x, xs), (b, tk) :: ptRho outC p t.sh (tk + 1) ++ rho, tk') else none
      | _, _ => none
  | _, _, _ => none

/-- The pointed-to parameters; their tokens when they came in run from te on; canonical tokens from tk on. -/
def finIo (E : Env) : (ps : List PK) → Nat → Nat → Nat → Option (TupD (ioTys ps) × List (Nat × Nat))
  | [], _, _, _ => some ((), [])
  | .val _ p :: ps, i, te, tk => finIo E ps (i + 1) (ptShape p te []).2 tk
  | .io τ p :: ps, i, te, tk => match E.get i, finIo E ps (i + 1) (ptShape p (te + 1) []).2 (ptShape p tk []).2 with
    | .box b v, some (xs, rho) => (match castV v τ with
      | some x => if fitsPt p v.sh && b = te then some ((x, xs), (b, te) :: ptRho outC p v.sh tk ++ rho) else none
      | none => none)
    | _, _ => none
  | .rd _ :: ps, i, te, tk | .vx _ _ :: ps, i, te, tk => finIo E ps (i + 1) te tk

def ioIdx : List PK → Nat → List Nat
  | [], _ => []
  | .val _ _ :: ps, i => ioIdx ps (i + 1)
  | .io _ _ :: ps, i => i :: ioIdx ps (i + 1)
  | .rd _ :: ps, i | .vx _ _ :: ps, i => ioIdx ps (i + 1)

/-- The boxes that come in: their places; the tokens of the rows in them. -/
def entIo : List PK → Nat → Nat → List (Nat × Ty × Sh)
  | [], _, _ => []
  | .val _ p :: ps, i, te => entIo ps (i + 1) (ptNext p te)
  | .io τ p :: ps, i, te => (i, τ, (ptShape p (te + 1) [1]).1) :: entIo ps (i + 1) (ptNext p (te + 1))
  | .rd _ :: ps, i, te | .vx _ _ :: ps, i, te => entIo ps (i + 1) te

/-- Whether heads that are to be kept are the same. -/
def keptOk (E : Env) (ps : List PK) (kp : List (Nat × List Bool)) : Bool :=
  kp.isEmpty || E.kp && kp.all fun q => match (entIo ps 0 3)[q.1]? with
    | some (i, τ, sh) => (match E.get i, rowTok sh q.2 with
      | .box _ v, some u => v.τ = τ && rowTok v.sh q.2 == some u
      | _, _ => false)
    | none => false

def fin (tt : TypeId → Option TI) (ps : List PK) (rs : List RK) (kp : List (Nat × List Bool)) (rv : List ResultVar) (nt : Nat) (E : Env) : Option (TupD (rs.map RK.ty ++ ioTys ps)) :=
  match finRs tt E rs rv nt with
  | some (xs, rho, tk) => (match finIo E ps 0 3 tk with
    | some (ys, rho') => if rhoOk (rho ++ rho') && keptOk E ps kp then some (TupD.app _ _ xs ys) else none
    | none => none)
  | none => none

def evFn (C : Cx) (ps : List PK) (rs : List RK) (kp : List (Nat × List Bool)) (fn : Func) (x : TupD (ps.map PK.ty)) : Option (TupD (rs.map RK.ty ++ ioTys ps)) :=
  match fn.body with
  | none => none
  | some c =>
    let e := env0 ps x 3
    ev { C with n := fn.ntmps, io := ioIdx ps 0 } c ⟨e.1 ++ List.replicate (fn.ntmps - e.1.length) .no, e.2, true⟩ (fin C.tt ps rs kp fn.results.toList e.2) [] (fin C.tt ps rs kp fn.results.toList e.2)

end Vg

/- VG, part 4: what the evaluator's surroundings say of the machine. -/
namespace Vg
open Go

/-- What is kept of memory beside the machine: each block's colour, each token's head. -/
structure Gh where
  col : Nat → Nat
  hdr : Nat → Value
  bx : Nat → Bool

theorem RepS.one {α : Type} {w : World} {sz : Nat} {R : α → List Value → List Nat → Prop} {l : List α} {v : Value} {B : List Nat}
    (h : RepS w sz R l v B) : v.oneCell' = true := by
  rcases h with h | ⟨b, off, cap, c, el, fz, Bs, rfl, _⟩
  · obtain ⟨ao, e⟩ := h.1; rw [e]; rfl
  · rfl

theorem RepS.mono {w w' : World} {e : Ty} {l : List e.den} {v : Value} {B : List Nat} (hB : ∀ b ∈ B, w'.heap[b]? = w.heap[b]?)
    (h : RepS w e.sz (Rep w e) l v B) : RepS w' e.sz (Rep w' e) l v B := by
  have : Rep w' (.sl e) l [v] B := Rep.mono hB ⟨v, rfl, h⟩
  obtain ⟨v', hv, h⟩ := this
  cases hv; exact h

/-- Cells written over. -/
def splice (o : Nat) (vs c : List Value) : List Value := c.take o ++ vs ++ c.drop (o + vs.length)

/-- Where v is put into element i of the row of b, at o, all blocks are come to once, all of the colour b; fr: v stands there. -/
def NstOk (w : World) (G : Gh) (v : Value) (b : Nat) (E : Ty) (i : Int) (o : Nat) (fr : Bool) : Prop :=
  3 ≤ b ∧ 0 ≤ i ∧ ∃ (blk off n cap : Nat) (c : Array Value) (el : TypeId) (L : List E.den) (Bs : List Nat),
    G.hdr b = .slice (some ⟨blk, off, none⟩) n cap ∧ n ≤ cap ∧ G.col blk = b ∧ w.heap[blk]? = some (.cells c el (0, 0)) ∧ off + cap * E.sz ≤ c.size ∧ i < n ∧ o + 1 ≤ E.sz ∧ L.length = n ∧
    RepL (Rep w E) L (splice (i.toNat * E.sz + o) [v] ((c.toList.drop off).take (n * E.sz))) Bs ∧ (blk :: Bs).Nodup ∧ (∀ x ∈ Bs, G.col x = b) ∧
    (fr = true → ((c.toList.drop off).take (n * E.sz))[i.toNat * E.sz + o]? = some v)

def RowOk (w : World) (G : Gh) (e : Ty) (l : List e.den) (v : Value) : M → Prop
  | .row t hs nd => 3 ≤ t ∧ G.hdr t = v ∧ ∃ B, RepS w e.sz (Rep w e) l v B ∧
      ∀ b Bs, B = b :: Bs → G.col b = t ∧ b ∉ Bs ∧ (∀ x ∈ Bs, G.col x ∈ hs) ∧ (nd = true → Bs.Nodup)
  | .sha hs => (∃ B, RepS w e.sz (Rep w e) l v B ∧ ∀ b ∈ B, G.col b ∈ hs) ∧ (hs = [] → v = .slice none 0 0)
  | .nst b E i o p fr => (∃ B, RepS w e.sz (Rep w e) l v B ∧ ∀ x ∈ B, G.col x = b) ∧ E.sub p = some (.sl e) ∧ E.off p = o ∧ NstOk w G v b E i o fr
  | .dead => v.oneCell' = true

def VOk (w : World) (G : Gh) : (τ : Ty) → τ.den → Sh → List Value → Prop
  | .int k, n, .leaf, cs => cs = [.int k n]
  | .bool, b, .leaf, cs => cs = [.bool b]
  | .str, s, .leaf, cs => cs = [.string s]
  | .sl e, l, .sl m, cs => ∃ v, cs = [v] ∧ RowOk w G e l v m
  | .pair a b, p, .pair s1 s2, cs => ∃ c1 c2, cs = c1 ++ c2 ∧ VOk w G a p.1 s1 c1 ∧ VOk w G b p.2 s2 c2
  | _, _, _, _ => False

/-- A slot's value. -/
def SOk (w : World) (G : Gh) : SV → Value → Prop
  | .no, _ => True
  | .d v, mv => ∃ cs, mv = mkv v.τ cs ∧ VOk w G v.τ v.x v.sh cs
  | .box t v, mv => ∃ bk c el, mv = .pointer (some ⟨bk, 0, none⟩) ∧ 3 ≤ t ∧ G.hdr t = mv ∧ G.col bk = t ∧ w.heap[bk]? = some (.cells c el (0, 0)) ∧ VOk w G v.τ v.x v.sh c.toList
  | .ptr t o _ _, mv => ∃ bk, 3 ≤ t ∧ G.hdr t = .pointer (some ⟨bk, 0, none⟩) ∧ mv = .pointer (some ⟨bk, o, none⟩)
  | .ept t e i o _ _, mv => ∃ b off n cap, 3 ≤ t ∧ G.hdr t = .slice (some ⟨b, off, none⟩) n cap ∧ 0 ≤ i ∧ i < n ∧ mv = .pointer (some ⟨b, off + i.toNat * e.sz + o, none⟩)
  | .rdp hs v, mv => ∃ b o c el fz, mv = .pointer (some ⟨b, o, none⟩) ∧ w.heap[b]? = some (.cells c el fz) ∧ o + v.τ.sz ≤ c.size ∧ G.col b ∈ hs ∧ VOk w G v.τ v.x v.sh ((c.toList.drop o).take v.τ.sz)
  | .tup l, mv => ∃ vs : List Value, mv = .tuple vs.toArray ∧ vs.length = l.length ∧ ∀ (i : Nat) (v : TV), l[i]? = some v → ∃ u cs, vs[i]? = some u ∧ u = mkv v.τ cs ∧ VOk w G v.τ v.x v.sh cs
  | .g _ _ act v, mv => (act = true → v.isBox = false ∧ SOk w G v mv) ∧ (act = false → mv = undef)

/-- The colours of a slot's values; the tokens of its boxes and of pointers to boxes; of pointers to elements. -/
def SV.sc : SV → List Nat
  | .d v | .box _ v => v.sh.cols
  | .rdp hs v => hs ++ v.sh.cols
  | .tup l => l.flatMap fun v => v.sh.cols
  | .g _ _ act v => if act = true then v.sc else []
  | _ => []
def SV.bt : SV → List Nat
  | .box t _ | .ptr t _ _ _ => [t]
  | .g _ _ act v => if act = true then v.bt else []
  | _ => []
def SV.rt : SV → List Nat
  | .ept t _ _ _ _ _ => [t]
  | .g _ _ act v => if act = true then v.rt else []
  | _ => []
/-- The colours whose memory is read. -/
def SV.hc : SV → List Nat
  | .box t v => t :: v.sh.cols
  | v => v.sc

/-- Two worlds agree on all blocks of some colours, and on the heads of some tokens. -/
structure Agree (S T : List Nat) (w w' : World) (G G' : Gh) : Prop where
  heap : ∀ b, G.col b ∈ S → w'.heap[b]? = w.heap[b]?
  col : ∀ b, G.col b ∈ S → G'.col b = G.col b
  hdr : ∀ t ∈ T, G'.hdr t = G.hdr t

theorem Agree.sub {S S' T T' : List Nat} {w w' : World} {G G' : Gh} (h : Agree S T w w' G G') (hs : ∀ c ∈ S', c ∈ S) (ht : ∀ c ∈ T', c ∈ T) : Agree S' T' w w' G G' :=
  ⟨fun b hb => h.heap b (hs _ hb), fun b hb => h.col b (hs _ hb), fun t hb => h.hdr t (ht _ hb)⟩

theorem RowOk.agree {w w' : World} {G G' : Gh} {e : Ty} {l : List e.den} {v : Value} {m : M} (h : Agree m.cols m.cols w w' G G') (hr : RowOk w G e l v m) : RowOk w' G' e l v m := by
  cases m with
  | row t hs nd =>
    obtain ⟨ht, hh, B, hB, hc⟩ := hr
    have hin : ∀ b ∈ B, G.col b ∈ t :: hs := by
      intro b hb
      cases B with
      | nil => cases hb
      | cons x Bs =>
        obtain ⟨h1, _, h3, _⟩ := hc x Bs rfl
        rcases List.mem_cons.1 hb with rfl | hb
        · simp [h1]
        · exact List.mem_cons_of_mem _ (h3 b hb)
    refine ⟨ht, (h.hdr t (by simp [M.cols])).trans hh, B, RepS.mono (fun b hb => h.heap b (hin b hb)) hB, ?_⟩
    intro b Bs e
    obtain ⟨h1, h2, h3, h4⟩ := hc b Bs e
    subst e
    refine ⟨(h.col b (hin b (by simp))).trans h1, h2, fun x hx => ?_, h4⟩
    rw [h.col x (hin x (by simp [hx]))]; exact h3 x hx
  | sha hs =>
    obtain ⟨⟨B, hB, hc⟩, hn⟩ := hr
    exact ⟨⟨B, RepS.mono (fun b hb => h.heap b (hc b hb)) hB, fun b hb => by rw [h.col b (hc b hb)]; exact hc b hb⟩, hn⟩
  | nst b E i o p fr =>
    obtain ⟨⟨B, hB, hc⟩, hs, ho, h3, hi, blk, off, n, cap, c, el, L, Bs, g1, g2, g3, g4, g5, g6, g7, g8, g9, g10, g11, g12⟩ := hr
    have hin : ∀ x, G.col x = b → G.col x ∈ (M.nst b E i o p fr).cols := fun x hx => by simp [M.cols, hx]
    refine ⟨⟨B, RepS.mono (fun x hx => h.heap x (hin x (hc x hx))) hB, fun x hx => (h.col x (hin x (hc x hx))).trans (hc x hx)⟩, hs, ho, h3, hi, blk, off, n, cap, c, el, L, Bs,
      (h.hdr b (by simp [M.cols])).trans g1, g2, (h.col blk (hin blk g3)).trans g3, (h.heap blk (hin blk g3)).trans g4, g5, g6, g7, g8, ?_, g10, fun x hx => (h.col x (hin x (g11 x hx))).trans (g11 x hx), g12⟩
    exact RepL.mono (fun x => w'.heap[x]? = w.heap[x]?) (fun _ _ _ hP hx => Rep.mono hP hx) (fun x hx => h.heap x (hin x (g11 x hx))) g9
  | dead => exact hr

theorem VOk.agree {w w' : World} {G G' : Gh} : ∀ {τ : Ty} {x : τ.den} {sh : Sh} {cs : List Value}, Agree sh.cols sh.cols w w' G G' → VOk w G τ x sh cs → VOk w' G' τ x sh cs
  | .int _, _, .leaf, _, _, h => h
  | .bool, _, .leaf, _, _, h => h
  | .str, _, .leaf, _, _, h => h
  | .sl e, l, .sl m, cs, ha, h => by obtain ⟨v, rfl, hr⟩ := h; exact ⟨v, rfl, RowOk.agree ha hr⟩
  | .pair a b, p, .pair s1 s2, cs, ha, h => by
    obtain ⟨c1, c2, rfl, h1, h2⟩ := h
    exact ⟨c1, c2, rfl, VOk.agree (ha.sub (fun c hc => by simp [Sh.cols, hc]) (fun c hc => by simp [Sh.cols, hc])) h1,
      VOk.agree (ha.sub (fun c hc => by simp [Sh.cols, hc]) (fun c hc => by simp [Sh.cols, hc])) h2⟩
  | .int _, _, .sl _, _, _, h | .int _, _, .pair _ _, _, _, h | .bool, _, .sl _, _, _, h | .bool, _, .pair _ _, _, _, h
  | .str, _, .sl _, _, _, h | .str, _, .pair _ _, _, _, h | .sl _, _, .leaf, _, _, h | .sl _, _, .pair _ _, _, _, h
  | .pair _ _, _, .leaf, _, _, h | .pair _ _, _, .sl _, _, _, h => h.elim

theorem SOk.agree {w w' : World} {G G' : Gh} : ∀ {s : SV} {mv : Value}, Agree s.hc (s.sc ++ s.bt ++ s.rt) w w' G G' → SOk w G s mv → SOk w' G' s mv
  | .no, _, _, _ => trivial
  | .d v, mv, ha, ⟨cs, h1, h2⟩ => ⟨cs, h1, VOk.agree (ha.sub (fun c hc => hc) (fun c hc => by simp [SV.sc, hc])) h2⟩
  | .box t v, mv, ha, ⟨bk, c, el, h1, h2, h3, h4, h5, h6⟩ =>
    ⟨bk, c, el, h1, h2, (ha.hdr t (by simp [SV.bt])).trans h3, (ha.col bk (by simp [SV.hc, h4])).trans h4,
      (ha.heap bk (by simp [SV.hc, h4])).trans h5, VOk.agree (ha.sub (fun c hc => by simp [SV.hc, hc]) (fun c hc => by simp [SV.sc, hc])) h6⟩
  | .ptr t o p τ, mv, ha, ⟨bk, h1, h2, h3⟩ => ⟨bk, h1, (ha.hdr t (by simp [SV.bt])).trans h2, h3⟩
  | .ept t e i o p τ, mv, ha, ⟨b, off, n, cap, h1, h2, h3⟩ => ⟨b, off, n, cap, h1, (ha.hdr t (by simp [SV.rt])).trans h2, h3⟩
  | .rdp hs v, mv, ha, ⟨b, o, c, el, fz, h1, h2, h3, h4, h5⟩ =>
    ⟨b, o, c, el, fz, h1, (ha.heap b (by simp [SV.hc, SV.sc, h4])).trans h2, h3, by rw [ha.col b (by simp [SV.hc, SV.sc, h4])]; exact h4,
      VOk.agree (ha.sub (fun c hc => by simp [SV.hc, SV.sc, hc]) (fun c hc => by simp [SV.sc, hc])) h5⟩
  | .tup l, mv, ha, ⟨vs, h1, h2, h3⟩ => by
    refine ⟨vs, h1, h2, fun i v hi => ?_⟩
    obtain ⟨u, cs, hu, hm, hv⟩ := h3 i v hi
    have hin : ∀ c ∈ v.sh.cols, c ∈ SV.sc (.tup l) := fun c hc => List.mem_flatMap.2 ⟨v, List.mem_of_getElem? hi, hc⟩
    exact ⟨u, cs, hu, hm, VOk.agree (ha.sub hin (fun c hc => by simp [hin c hc])) hv⟩
  | .g j w' false v, mv, ha, ⟨h1, h2⟩ => ⟨fun e => absurd e (by simp), h2⟩
  | .g j w' true v, mv, ha, ⟨h1, h2⟩ => ⟨fun e => ⟨(h1 e).1, SOk.agree (s := v) (by
      have hv := (h1 e).1
      cases v with
      | box t v => simp [SV.isBox] at hv
      | _ => simpa [SV.hc, SV.sc, SV.bt, SV.rt] using ha) (h1 e).2⟩, h2⟩

theorem SV.hc_sub : ∀ (s : SV) (c : Nat), c ∈ s.hc → c ∈ s.sc ∨ c ∈ s.bt
  | .no, c, h | .ptr .., c, h | .ept .., c, h => by simp [SV.hc, SV.sc] at h
  | .d v, c, h | .rdp hs v, c, h | .tup l, c, h => .inl h
  | .box t v, c, h => by
    rcases List.mem_cons.1 h with rfl | h
    · right; simp [SV.bt]
    · left; exact h
  | .g _ _ _ v, c, h => .inl h

/-- How a function begins: each block's colour; the heads that are kept in mind. -/
structure C0 where
  col : Nat → Nat
  hdr : Nat → Option Value

/-- The machine as the surroundings tell it. -/
structure Inv (w0 : World) (c0 : C0) (U : Nat → Prop) (E : Env) (a : Act) (w : World) (G : Gh) : Prop where
  len : a.tmps.size = E.s.length
  slots : ∀ s, SOk w G (E.s.getD s .no) (a.tmps.getD s undef)
  sc : ∀ s, ∀ c ∈ (E.s.getD s .no).sc, 0 < c ∧ U c ∧ G.bx c = false
  bt : ∀ s, ∀ t ∈ (E.s.getD s .no).bt, 0 < t ∧ U t ∧ G.bx t = true
  rt : ∀ s, ∀ t ∈ (E.s.getD s .no).rt, 0 < t ∧ U t ∧ G.bx t = false
  uni : ∀ s s' t v v', E.s.getD s .no = .box t v → E.s.getD s' .no = .box t v' → s = s'
  colU : ∀ b, 0 < G.col b → U (G.col b)
  lt : ∀ b, 0 < G.col b → b < w.heap.size
  fresh : ∀ b, 3 ≤ G.col b → ∃ c el, w.heap[b]? = some (.cells c el (0, 0))
  frame : ∀ b, b < w0.heap.size → c0.col b < 3 → G.col b = c0.col b ∧ w.heap[b]? = w0.heap[b]?
  one : ∀ b, G.col b = 1 → b < w0.heap.size ∧ c0.col b = 1
  size : w0.heap.size ≤ w.heap.size
  os : w.os = w0.os
  tape : w.tape = w0.tape
  output : w.output = w0.output
  defers : a.defers = []
  two : U 2 ∧ G.bx 2 = false
  hk : E.kp = true → ∀ t v, c0.hdr t = some v → U t ∧ G.hdr t = v

theorem get_set (l : List SV) (d s : Nat) (v : SV) : (l.set d v).getD s .no = if s = d ∧ d < l.length then v else l.getD s .no := by
  simp only [List.getD_eq_getElem?_getD, List.getElem?_set]
  by_cases h : d = s
  · subst h
    by_cases h' : d < l.length
    · simp [h']
    · simp [h']
  · simp [h, Ne.symm h]

theorem tmps_put (a : Act) (d : Option Nat) (v : Value) (s : Nat) (hd : ∀ x, d = some x → x < a.tmps.size) :
    (a.put d v).tmps.getD s undef = if some s = d then v else a.tmps.getD s undef := by
  cases d with
  | none => simp [Act.put]
  | some d =>
    have := hd d rfl
    simp only [Act.put, Array.getD_eq_getD_getElem?, Array.getElem?_setIfInBounds, Option.some.injEq]
    by_cases h : d = s
    · subst h; simp [this]
    · simp [h, Ne.symm h]

theorem tmps_put_out (a : Act) (d : Nat) (v : Value) (h : ¬ d < a.tmps.size) : a.put (some d) v = a := by
  cases a; simp only [Act.put, Act.mk.injEq, and_true]
  exact Array.setIfInBounds_eq_of_size_le (by simpa using h)

theorem size_put (a : Act) (d : Option Nat) (v : Value) : (a.put d v).tmps.size = a.tmps.size := by
  cases d <;> simp [Act.put]

theorem defers_put (a : Act) (d : Option Nat) (v : Value) : (a.put d v).defers = a.defers := by
  cases d <;> simp [Act.put]

section
variable {w0 : World} {c0 : C0} {U : Nat → Prop} {E : Env} {a : Act} {w : World} {G : Gh}

/-- A slot is written. -/
theorem Inv.put (h : Inv w0 c0 U E a w G) (d : Option Nat) {sv : SV} {v : Value} (hs : SOk w G sv v)
    (hsc : ∀ c ∈ sv.sc, 0 < c ∧ U c ∧ G.bx c = false) (hbt : ∀ c ∈ sv.bt, 0 < c ∧ U c ∧ G.bx c = true) (hrt : ∀ c ∈ sv.rt, 0 < c ∧ U c ∧ G.bx c = false)
    (hbox : ∀ t u, sv = .box t u → ∀ s u', E.s.getD s .no ≠ .box t u') :
    Inv w0 c0 U (E.set d sv) (a.put d v) w G := by
  cases d with
  | none => exact h
  | some d =>
    have hget : ∀ s, (E.set (some d) sv).s.getD s .no = if s = d ∧ d < E.s.length then sv else E.s.getD s .no := fun s => get_set E.s d s sv
    refine { h with len := ?_, slots := ?_, sc := ?_, bt := ?_, rt := ?_, uni := ?_, defers := by rw [defers_put]; exact h.defers }
    · rw [size_put, h.len]; simp [Env.set]
    · intro s
      rw [hget]
      by_cases hd : d < a.tmps.size
      · rw [tmps_put a (some d) v s (by rintro x ⟨⟩; exact hd)]
        by_cases e : s = d
        · subst e; rw [if_pos ⟨rfl, h.len ▸ hd⟩, if_pos rfl]; exact hs
        · rw [if_neg (by simp [e]), if_neg (by simp [e])]; exact h.slots s
      · rw [tmps_put_out a d v hd, if_neg (by rw [← h.len]; simp; omega)]; exact h.slots s
    · intro s c hcs
      rw [hget] at hcs
      split at hcs
      · exact hsc c hcs
      · exact h.sc s c hcs
    · intro s c hcs
      rw [hget] at hcs
      split at hcs
      · exact hbt c hcs
      · exact h.bt s c hcs
    · intro s c hcs
      rw [hget] at hcs
      split at hcs
      · exact hrt c hcs
      · exact h.rt s c hcs
    · intro s s' t u u' h1 h2
      rw [hget] at h1 h2
      split at h1 <;> split at h2
      · omega
      · exact absurd h2 (hbox t u h1 s' u')
      · exact absurd h1 (hbox t u' h2 s u)
      · exact h.uni s s' t u u' h1 h2

theorem Inv.mono {U' : Nat → Prop} (h : Inv w0 c0 U E a w G) (hU : ∀ c, U c → U' c) : Inv w0 c0 U' E a w G :=
  { h with
    sc := fun s c hc => ⟨(h.sc s c hc).1, hU _ (h.sc s c hc).2.1, (h.sc s c hc).2.2⟩
    bt := fun s c hc => ⟨(h.bt s c hc).1, hU _ (h.bt s c hc).2.1, (h.bt s c hc).2.2⟩
    rt := fun s c hc => ⟨(h.rt s c hc).1, hU _ (h.rt s c hc).2.1, (h.rt s c hc).2.2⟩
    colU := fun b hb => hU _ (h.colU b hb)
    two := ⟨hU _ h.two.1, h.two.2⟩
    hk := fun hk t v e => ⟨hU _ (h.hk hk t v e).1, (h.hk hk t v e).2⟩ }

theorem size_alloc (w : World) (o : Obj) : (w.alloc o).heap.size = w.heap.size + 1 := Array.size_push ..

/-- A new block, of a new token. -/
def Gh.add (G : Gh) (b t : Nat) (v : Value) (x : Bool) : Gh :=
  ⟨fun y => if y = b then t else G.col y, fun u => if u = t then v else G.hdr u, fun u => if u = t then x else G.bx u⟩

theorem Inv.drawn (h : Inv w0 c0 U E a w G) (n : Nat) : Inv w0 c0 U E a { w with drawn := n } G := by
  refine { h with slots := fun s => ?_ }
  exact SOk.agree (w := w) (G := G) (G' := G) ⟨fun _ _ => rfl, fun _ _ => rfl, fun _ _ => rfl⟩ (h.slots s)

theorem Inv.alloc (h : Inv w0 c0 U E a w G) {t : Nat} (ht : 3 ≤ t) (hU : ¬ U t) (c : Array Value) (el : TypeId) (v : Value) (x : Bool) :
    Inv w0 c0 (fun u => U u ∨ u = t) E a (w.alloc (.cells c el)) (G.add w.heap.size t v x) := by
  have hb0 : ∀ b, 0 < G.col b → b ≠ w.heap.size := fun b hb e => by have := h.lt b hb; omega
  have hne : ∀ u, U u → u ≠ t := fun u hu e => hU (e ▸ hu)
  refine ⟨h.len, fun s => ?_, fun s c hc => ?_, fun s c hc => ?_, fun s c hc => ?_, h.uni, ?_, ?_, ?_, ?_, ?_, ?_, h.os, h.tape, h.output, h.defers, ⟨.inl h.two.1, by simp only [Gh.add]; rw [if_neg (by omega)]; exact h.two.2⟩, fun hk t' v' e => ⟨.inl (h.hk hk t' v' e).1, by simp only [Gh.add]; rw [if_neg (hne t' (h.hk hk t' v' e).1)]; exact (h.hk hk t' v' e).2⟩⟩
  · refine SOk.agree (w := w) (G := G) ⟨fun b hb => ?_, fun b hb => ?_, fun u hu => ?_⟩ (h.slots s)
    · have : 0 < G.col b := by rcases SV.hc_sub _ _ hb with hb | hb; exact (h.sc s _ hb).1; exact (h.bt s _ hb).1
      exact heap_alloc_old w _ b (h.lt b this)
    · have : 0 < G.col b := by rcases SV.hc_sub _ _ hb with hb | hb; exact (h.sc s _ hb).1; exact (h.bt s _ hb).1
      simp [Gh.add, hb0 b this]
    · have : U u := by
        simp only [List.mem_append] at hu
        rcases hu with (hu | hu) | hu
        · exact (h.sc s u hu).2.1
        · exact (h.bt s u hu).2.1
        · exact (h.rt s u hu).2.1
      simp [Gh.add, hne u this]
  · have := h.sc s c hc; exact ⟨this.1, .inl this.2.1, by simp [Gh.add, hne c this.2.1, this.2.2]⟩
  · have := h.bt s c hc; exact ⟨this.1, .inl this.2.1, by simp [Gh.add, hne c this.2.1, this.2.2]⟩
  · have := h.rt s c hc; exact ⟨this.1, .inl this.2.1, by simp [Gh.add, hne c this.2.1, this.2.2]⟩
  · intro b hb
    by_cases e : b = w.heap.size
    · right; simp [Gh.add, e]
    · left; simp only [Gh.add, e, if_false] at hb ⊢; exact h.colU b hb
  · intro b hb
    by_cases e : b = w.heap.size
    · rw [size_alloc]; omega
    · simp only [Gh.add, e, if_false] at hb
      have := h.lt b hb; rw [size_alloc]; omega
  · intro b hb
    by_cases e : b = w.heap.size
    · exact ⟨c, el, by rw [e]; exact heap_alloc_new w _⟩
    · simp only [Gh.add, e, if_false] at hb
      obtain ⟨c', el', hc'⟩ := h.fresh b hb
      exact ⟨c', el', by rw [heap_alloc_old w _ b (lt_of_block hc')]; exact hc'⟩
  · intro b hb hc
    have hlt : b < w.heap.size := Nat.lt_of_lt_of_le hb h.size
    refine ⟨?_, ?_⟩
    · simp only [Gh.add, if_neg (Nat.ne_of_lt hlt)]; exact (h.frame b hb hc).1
    · rw [heap_alloc_old w _ b hlt]; exact (h.frame b hb hc).2
  · intro b hb
    by_cases e : b = w.heap.size
    · simp [Gh.add, e] at hb; omega
    · simp only [Gh.add, e, if_false] at hb; exact h.one b hb
  · have := h.size; rw [size_alloc]; omega

end
end Vg

/- VG, part 5: what single operations of the model come to, on told values. -/
namespace Vg
open Go

/-- What the program's table says of a type. -/
def TyFacts (P : Program) (t : TypeId) (τ : Ty) : Prop :=
  ∃ inf d, P.info? t = some inf ∧ inf.size = τ.sz ∧ inf.zero = some (mkv τ τ.zero) ∧ inf.bytes ≤ 32768 ∧
    P.underlying t = some d ∧ (d matches .struct _ | .array _ _) = τ.isPair

structure FieldOk (P : Program) (τ : Ty) (fs : List TypeId) (j : Nat) (f : Field) : Prop where
  off : f.offset = τ.off (fpath fs.length j)
  ty : fs[j]? = some f.type
  sub : ∃ σ, τ.sub (fpath fs.length j) = some σ ∧ TyFacts P f.type σ

def TyOk (P : Program) (t : TypeId) (i : TI) : Prop :=
  TyFacts P t i.τ ∧ match i.τ with
  | .int k => P.underlying t = some (.int k)
  | .bool => P.underlying t = some .bool
  | .str => P.underlying t = some .string
  | .sl e => P.underlying t = some (.slice i.el) ∧ TyFacts P i.el e
  | .pair _ _ => ∃ fields, P.underlying t = some (.struct fields) ∧ fields.size = i.fs.length ∧
      ∀ (j : Nat) (f : Field), fields[j]? = some f → FieldOk P i.τ i.fs j f

section
variable {P : Program} {w : World}

theorem run_info {t : TypeId} {inf : TypeInfo} (h : P.info? t = some inf) : (typeInfo t).run P w = .ok inf w := by
  simp [typeInfo, h]

theorem run_sizeOf' {t : TypeId} {τ : Ty} (h : TyFacts P t τ) : (Go.sizeOf t).run P w = .ok τ.sz w := by
  obtain ⟨inf, d, h1, h2, _⟩ := h
  simp [Go.sizeOf, run_info h1, h2]

theorem run_zeroValue {t : TypeId} {τ : Ty} (h : TyFacts P t τ) : (zeroValue t).run P w = .ok (mkv τ τ.zero) w := by
  obtain ⟨inf, d, h1, h2, h3, _⟩ := h
  simp [zeroValue, run_info h1, h3]

theorem run_isAgg {t : TypeId} {τ : Ty} (h : TyFacts P t τ) : (isAgg t).run P w = .ok τ.isPair w := by
  obtain ⟨inf, d, h1, h2, h3, h4, h5, h6⟩ := h
  rw [← h6]
  cases d <;> simp [isAgg, run_underlying h5]

theorem mkv_cells {τ : Ty} {cs : List Value} (hl : cs.length = τ.sz) (h1 : ∀ v ∈ cs, v.oneCell' = true) : (mkv τ cs).cells.toList = cs := by
  cases τ with
  | pair a b => simp [mkv, Value.cells]
  | _ =>
    simp only [Ty.sz] at hl
    match cs, hl with
    | [v], _ =>
      have := h1 v (by simp)
      cases v <;> simp_all [mkv, Value.cells, Value.oneCell']

theorem mkv_cells_size {τ : Ty} {cs : List Value} (hl : cs.length = τ.sz) (h1 : ∀ v ∈ cs, v.oneCell' = true) : (mkv τ cs).cells.size = τ.sz := by
  have := congrArg List.length (mkv_cells hl h1)
  simpa [hl] using this

theorem zero_one : ∀ (τ : Ty), ∀ v ∈ τ.zero, v.oneCell' = true := fun τ => Rep.one (Rep.zero default τ)

theorem cell_row {b : Nat} {c : Array Value} {el : TypeId} {fz : Nat × Nat} (hb : w.heap[b]? = some (.cells c el fz)) (o : Nat) : w.cell? ⟨b, o, none⟩ = c[o]? := by
  simp [World.cell?, hb]

theorem win_get {c : Array Value} {o n j : Nat} {v : Value} (h : ((c.toList.drop o).take n)[j]? = some v) : c[o + j]? = some v := by
  rw [List.getElem?_take] at h
  split at h
  · rw [List.getElem?_drop] at h; simpa using h
  · cases h

theorem run_loadVar' {t : TypeId} {τ : Ty} (h : TyFacts P t τ) {b o : Nat} {c : Array Value} {el : TypeId} {fz : Nat × Nat}
    (hb : w.heap[b]? = some (.cells c el fz)) (hs : o + τ.sz ≤ c.size) : (loadVar t ⟨b, o, none⟩).run P w = .ok (mkv τ ((c.toList.drop o).take τ.sz)) w := by
  have hlen : ((c.toList.drop o).take τ.sz).length = τ.sz := by simp; omega
  cases hp : τ.isPair with
  | true =>
    have hl := run_loadCells_list (P := P) w ⟨b, o, none⟩ ((c.toList.drop o).take τ.sz) (fun j v hv => by
      rw [Addr.add_lit, cell_row hb]; exact win_get hv)
    rw [hlen] at hl
    simp [loadVar, run_isAgg h, hp, run_sizeOf' h, hl]
    cases τ <;> simp_all [mkv, Ty.isPair]
  | false =>
    have h1 : τ.sz = 1 := by cases τ <;> simp_all [Ty.isPair, Ty.sz]
    have ho : o < c.size := by omega
    have hc : c[o]? = some c[o] := Array.getElem?_eq_getElem ho
    have hw : (c.toList.drop o).take 1 = [c[o]] := by
      rw [List.take_one, List.head?_drop]; simp [hc]
    rw [h1, hw]
    have hm : mkv τ [c[o]] = c[o] := by cases τ <;> simp_all [mkv, Ty.isPair]
    rw [hm]
    simp only [loadVar, Sem.run_bind, run_isAgg h, hp, Result.andThen_ok, Bool.false_eq_true, if_false, run_load, cell_row hb, hc]

theorem frozen_row {b : Nat} {c : Array Value} {el : TypeId} (hb : w.heap[b]? = some (.cells c el (0, 0))) (o : Nat) : w.frozen? ⟨b, o, none⟩ = false := by
  simp [World.frozen?, hb]

theorem setCells_other (b : Nat) : ∀ (vs : List Value) (o : Nat) (w : World) (k : Nat), k ≠ b → (w.setCells b o vs).heap[k]? = w.heap[k]?
  | [], _, _, _, _ => rfl
  | v :: r, o, w, k, h => by
    rw [World.setCells, setCells_other b r (o + 1) _ k h]
    exact heap_setCell_other w ⟨b, o, none⟩ k v h

theorem setCells_size (b : Nat) : ∀ (vs : List Value) (o : Nat) (w : World), (w.setCells b o vs).heap.size = w.heap.size
  | [], _, _ => rfl
  | v :: r, o, w => by rw [World.setCells, setCells_size b r (o + 1)]; simp [World.setCell]

theorem setCells_env (b : Nat) : ∀ (vs : List Value) (o : Nat) (w : World), (w.setCells b o vs).os = w.os ∧ (w.setCells b o vs).tape = w.tape ∧ (w.setCells b o vs).output = w.output
  | [], _, _ => ⟨rfl, rfl, rfl⟩
  | _ :: r, o, _ => setCells_env b r (o + 1) _

theorem setCells_row (b : Nat) {el : TypeId} : ∀ (vs : List Value) (o : Nat) (w : World) (c : Array Value), w.heap[b]? = some (.cells c el (0, 0)) → o + vs.length ≤ c.size →
    (w.setCells b o vs).heap[b]? = some (.cells (c.toList.take o ++ vs ++ c.toList.drop (o + vs.length)).toArray el (0, 0))
  | [], o, w, c, hb, _ => by simp [World.setCells, hb]
  | v :: r, o, w, c, hb, hs => by
    simp only [List.length_cons] at hs
    have h1 : (w.setCell ⟨b, o, none⟩ v).heap[b]? = some (.cells (c.setIfInBounds o v) el (0, 0)) := by
      simp only [World.setCell, Array.getElem?_modify, hb]; rfl
    rw [World.setCells, setCells_row b r (o + 1) _ _ h1 (by simp; omega)]
    congr 3
    have ho : o < c.toList.length := by simp at hs ⊢; omega
    have hd : (c.toList.set o v).drop (o + 1 + r.length) = c.toList.drop (o + (r.length + 1)) := by
      rw [List.drop_set_of_lt (by omega)]; congr 1; omega
    have ht : (c.toList.set o v).take (o + 1) = c.toList.take o ++ [v] := by
      rw [List.take_succ_eq_append_getElem (by simpa using ho), List.take_set_of_le (Nat.le_refl _)]
      simp
    simp only [Array.toList_setIfInBounds, List.length_cons, hd, ht]
    simp

theorem run_storeVar' {t : TypeId} {τ : Ty} (h : TyFacts P t τ) {b o : Nat} {c : Array Value} {el : TypeId} {cs : List Value}
    (hb : w.heap[b]? = some (.cells c el (0, 0))) (hs : o + τ.sz ≤ c.size) (hl : cs.length = τ.sz) (h1 : ∀ v ∈ cs, v.oneCell' = true) :
    (storeVar t ⟨b, o, none⟩ (mkv τ cs)).run P w = .ok () (w.setCells b o cs) := by
  have hst := run_storeCells_cells (P := P) b o cs 0 w (fun j hj => by rw [cell_row hb]; simp; omega) (fun j hj => frozen_row hb _) h1
  simp [storeVar, run_sizeOf' h, mkv_cells_size hl h1, mkv_cells hl h1]
  simpa using hst

end
end Vg

/- VG, part 6: laws of told values: parts of them, parts put anew, what they say of memory. -/
namespace Vg
open Go

section
variable {w : World} {G : Gh}

theorem VOk.len : ∀ {τ : Ty} {x : τ.den} {sh : Sh} {cs : List Value}, VOk w G τ x sh cs → cs.length = τ.sz
  | .int _, _, .leaf, _, h => by rw [show _ = _ from h]; rfl
  | .bool, _, .leaf, _, h => by rw [show _ = _ from h]; rfl
  | .str, _, .leaf, _, h => by rw [show _ = _ from h]; rfl
  | .sl e, l, .sl m, cs, h => by obtain ⟨v, rfl, _⟩ := h; rfl
  | .pair a b, p, .pair s1 s2, cs, h => by
    obtain ⟨c1, c2, rfl, h1, h2⟩ := h
    simp [Ty.sz, VOk.len h1, VOk.len h2]
  | .int _, _, .sl _, _, h | .int _, _, .pair _ _, _, h | .bool, _, .sl _, _, h | .bool, _, .pair _ _, _, h
  | .str, _, .sl _, _, h | .str, _, .pair _ _, _, h | .sl _, _, .leaf, _, h | .sl _, _, .pair _ _, _, h
  | .pair _ _, _, .leaf, _, h | .pair _ _, _, .sl _, _, h => h.elim

theorem RowOk.one {e : Ty} {l : List e.den} {v : Value} {m : M} (h : RowOk w G e l v m) : v.oneCell' = true := by
  cases m with
  | row t hs nd => obtain ⟨_, _, B, hB, _⟩ := h; exact hB.one
  | sha hs => obtain ⟨⟨B, hB, _⟩, _⟩ := h; exact hB.one
  | nst b E i o p fr => obtain ⟨⟨B, hB, _⟩, _⟩ := h; exact hB.one
  | dead => exact h

theorem VOk.one : ∀ {τ : Ty} {x : τ.den} {sh : Sh} {cs : List Value}, VOk w G τ x sh cs → ∀ v ∈ cs, v.oneCell' = true
  | .int _, _, .leaf, _, h, v, hv => by rw [show _ = _ from h] at hv; simp at hv; subst hv; rfl
  | .bool, _, .leaf, _, h, v, hv => by rw [show _ = _ from h] at hv; simp at hv; subst hv; rfl
  | .str, _, .leaf, _, h, v, hv => by rw [show _ = _ from h] at hv; simp at hv; subst hv; rfl
  | .sl e, l, .sl m, cs, h, v, hv => by obtain ⟨u, rfl, hr⟩ := h; simp at hv; subst hv; exact hr.one
  | .pair a b, p, .pair s1 s2, cs, h, v, hv => by
    obtain ⟨c1, c2, rfl, h1, h2⟩ := h
    rcases List.mem_append.1 hv with hv | hv
    · exact VOk.one h1 v hv
    · exact VOk.one h2 v hv
  | .int _, _, .sl _, _, h, _, _ | .int _, _, .pair _ _, _, h, _, _ | .bool, _, .sl _, _, h, _, _ | .bool, _, .pair _ _, _, h, _, _
  | .str, _, .sl _, _, h, _, _ | .str, _, .pair _ _, _, h, _, _ | .sl _, _, .leaf, _, h, _, _ | .sl _, _, .pair _ _, _, h, _, _
  | .pair _ _, _, .leaf, _, h, _, _ | .pair _ _, _, .sl _, _, h, _, _ => h.elim

theorem SOk.d_of {v : TV} {cs : List Value} (h : VOk w G v.τ v.x v.sh cs) : SOk w G (.d v) (mkv v.τ cs) := ⟨cs, rfl, h⟩

/-- A part. -/
theorem VOk.sub : ∀ {p : List Bool} {τ : Ty} {x : τ.den} {sh : Sh} {cs : List Value} {r : TV}, subV τ x sh p = some r → VOk w G τ x sh cs →
    VOk w G r.τ r.x r.sh ((cs.drop (τ.off p)).take r.τ.sz) ∧ τ.off p + r.τ.sz ≤ τ.sz ∧ τ.sub p = some r.τ ∧ (∀ c ∈ r.sh.cols, c ∈ sh.cols)
  | [], τ, x, sh, cs, r, hr, h => by
    have : r = ⟨τ, x, sh⟩ := by cases τ <;> simp_all [subV]
    subst this
    refine ⟨?_, ?_, ?_, fun c hc => hc⟩
    · have := VOk.len h
      cases τ <;> simpa [Ty.off, List.take_of_length_le (Nat.le_of_eq this)] using h
    · cases τ <;> simp [Ty.off]
    · cases τ <;> simp [Ty.sub]
  | false :: p, .pair a b, x, .pair s1 s2, cs, r, hr, h => by
    obtain ⟨c1, c2, rfl, h1, h2⟩ := h
    obtain ⟨hv, hle, hs, hc⟩ := VOk.sub (p := p) (by simpa [subV] using hr) h1
    have hl := VOk.len h1
    refine ⟨?_, by simp only [Ty.off, Ty.sz]; omega, by simpa [Ty.sub] using hs, fun c hcc => by simp [Sh.cols, hc c hcc]⟩
    simp only [Ty.off]
    rw [List.drop_append_of_le_length (by omega), List.take_append_of_le_length (by simp; omega)]
    exact hv
  | true :: p, .pair a b, x, .pair s1 s2, cs, r, hr, h => by
    obtain ⟨c1, c2, rfl, h1, h2⟩ := h
    obtain ⟨hv, hle, hs, hc⟩ := VOk.sub (p := p) (by simpa [subV] using hr) h2
    have hl := VOk.len h1
    refine ⟨?_, by simp only [Ty.off, Ty.sz]; omega, by simpa [Ty.sub] using hs, fun c hcc => by simp [Sh.cols, hc c hcc]⟩
    simp only [Ty.off]
    rw [← hl, List.drop_append, List.drop_of_length_le (by omega)]
    simpa using hv
  | b :: p, .int _, _, _, _, _, hr, _ | b :: p, .bool, _, _, _, _, hr, _ | b :: p, .str, _, _, _, _, hr, _ | b :: p, .sl _, _, _, _, _, hr, _ => by simp [subV] at hr
  | false :: p, .pair _ _, _, .leaf, _, _, hr, _ | false :: p, .pair _ _, _, .sl _, _, _, hr, _ => by simp [subV] at hr
  | true :: p, .pair _ _, _, .leaf, _, _, hr, _ | true :: p, .pair _ _, _, .sl _, _, _, hr, _ => by simp [subV] at hr

theorem castV_ok {v : TV} {τ : Ty} {y : τ.den} (h : castV v τ = some y) : v = ⟨τ, y, v.sh⟩ := by
  obtain ⟨σ, x, sh⟩ := v
  unfold castV at h
  split at h
  · rename_i e; simp only at e; subst e; simp only [cast_eq, Option.some.injEq] at h; subst h; rfl
  · cases h

/-- A part put anew. -/
theorem VOk.put : ∀ {p : List Bool} {τ : Ty} {x : τ.den} {sh : Sh} {cs : List Value} {v : TV} {y : τ.den} {s : Sh} {cv : List Value},
    putV τ x sh p v = some (y, s) → VOk w G τ x sh cs → VOk w G v.τ v.x v.sh cv →
    VOk w G τ y s (cs.take (τ.off p) ++ cv ++ cs.drop (τ.off p + v.τ.sz)) ∧ τ.off p + v.τ.sz ≤ τ.sz ∧ (∀ c ∈ s.cols, c ∈ sh.cols ∨ c ∈ v.sh.cols)
  | [], τ, x, sh, cs, v, y, s, cv, hp, h, hv => by
    have hp' : castV v τ = some y ∧ s = v.sh := by
      cases τ <;> (simp only [putV] at hp; split at hp <;> simp_all)
    obtain ⟨hc, rfl⟩ := hp'
    have e := castV_ok hc
    have hl := VOk.len h
    have h0 : τ.off [] = 0 := by cases τ <;> rfl
    have hτ : v.τ = τ := by rw [e]
    refine ⟨?_, by rw [h0, hτ]; omega, fun c hcc => .inr hcc⟩
    rw [h0, hτ, List.take_zero, List.nil_append, Nat.zero_add, List.drop_of_length_le (by omega), List.append_nil]
    rw [e] at hv; exact hv
  | false :: p, .pair a b, x, .pair s1 s2, cs, v, y, s, cv, hp, h, hv => by
    obtain ⟨c1, c2, rfl, h1, h2⟩ := h
    simp only [putV] at hp
    split at hp
    · rename_i y1 s1' hq
      cases hp
      obtain ⟨hv', hle, hcs⟩ := VOk.put hq h1 hv
      have hl := VOk.len h1
      refine ⟨⟨_, c2, ?_, hv', h2⟩, by simp only [Ty.off, Ty.sz]; omega, fun c hc => ?_⟩
      · simp only [Ty.off]
        rw [List.take_append_of_le_length (by omega), List.drop_append_of_le_length (by omega)]
        simp
      · simp only [Sh.cols, List.mem_append] at hc ⊢
        rcases hc with hc | hc
        · rcases hcs c hc with h | h
          · exact .inl (.inl h)
          · exact .inr h
        · exact .inl (.inr hc)
    · cases hp
  | true :: p, .pair a b, x, .pair s1 s2, cs, v, y, s, cv, hp, h, hv => by
    obtain ⟨c1, c2, rfl, h1, h2⟩ := h
    simp only [putV] at hp
    split at hp
    · rename_i y1 s1' hq
      cases hp
      obtain ⟨hv', hle, hcs⟩ := VOk.put hq h2 hv
      have hl := VOk.len h1
      refine ⟨⟨c1, _, ?_, h1, hv'⟩, by simp only [Ty.off, Ty.sz]; omega, fun c hc => ?_⟩
      · simp only [Ty.off]
        rw [← hl, List.take_append, List.take_of_length_le (by omega), List.drop_append, List.drop_of_length_le (by omega)]
        simp [Nat.add_assoc]
      · simp only [Sh.cols, List.mem_append] at hc ⊢
        rcases hc with hc | hc
        · exact .inl (.inl hc)
        · rcases hcs c hc with h | h
          · exact .inl (.inr h)
          · exact .inr h
    · cases hp
  | b :: p, .int _, _, _, _, _, _, _, _, hp, _, _ | b :: p, .bool, _, _, _, _, _, _, _, hp, _, _ | b :: p, .str, _, _, _, _, _, _, _, hp, _, _ | b :: p, .sl _, _, _, _, _, _, _, _, hp, _, _ => by simp [putV] at hp
  | false :: p, .pair _ _, _, .leaf, _, _, _, _, _, hp, _, _ | false :: p, .pair _ _, _, .sl _, _, _, _, _, _, hp, _, _ => by simp [putV] at hp
  | true :: p, .pair _ _, _, .leaf, _, _, _, _, _, hp, _, _ | true :: p, .pair _ _, _, .sl _, _, _, _, _, _, hp, _, _ => by simp [putV] at hp

theorem shOf_cols : ∀ (τ : Ty) (m : M), ∀ c ∈ (shOf τ m).cols, c ∈ m.cols
  | .int _, _, c, h | .bool, _, c, h | .str, _, c, h => by simp [shOf, Sh.cols] at h
  | .sl _, _, c, h => h
  | .pair a b, m, c, h => by
    simp only [shOf, Sh.cols, List.mem_append] at h
    rcases h with h | h
    · exact shOf_cols a m c h
    · exact shOf_cols b m c h

/-- Memory all of whose blocks have some colours. -/
theorem VOk.of_rep : ∀ {τ : Ty} {x : τ.den} {cs : List Value} {B : List Nat} {hs : List Nat}, Rep w τ x cs B → (∀ b ∈ B, G.col b ∈ hs) → hs ≠ [] → VOk w G τ x (shOf τ (.sha hs)) cs
  | .int _, _, _, _, _, h, _, _ => h.1
  | .bool, _, _, _, _, h, _, _ => h.1
  | .str, _, _, _, _, h, _, _ => h.1
  | .sl e, l, cs, B, hs, h, hb, hn => by obtain ⟨v, rfl, hr⟩ := h; exact ⟨v, rfl, ⟨B, hr, hb⟩, fun e => absurd e hn⟩
  | .pair a b, p, cs, B, hs, h, hb, hn => by
    obtain ⟨c1, c2, B1, B2, rfl, rfl, h1, h2⟩ := h
    exact ⟨c1, c2, rfl, VOk.of_rep h1 (fun b hb' => hb b (by simp [hb'])) hn, VOk.of_rep h2 (fun b hb' => hb b (by simp [hb'])) hn⟩

/-- The zero value. -/
theorem VOk.zero : ∀ (τ : Ty), VOk w G τ τ.dflt (shOf τ (.sha [])) τ.zero
  | .int _ => rfl
  | .bool => rfl
  | .str => rfl
  | .sl _ => ⟨_, rfl, ⟨[], .inl ⟨⟨none, rfl⟩, rfl, rfl⟩, by simp⟩, fun _ => rfl⟩
  | .pair a b => ⟨_, _, rfl, VOk.zero a, VOk.zero b⟩

/-- Live memory is told, its blocks have the shape's colours. -/
theorem RowOk.rep {e : Ty} {l : List e.den} {v : Value} {m : M} (h : RowOk w G e l v m) (hl : m ≠ .dead) :
    ∃ B, RepS w e.sz (Rep w e) l v B ∧ ∀ b ∈ B, G.col b ∈ m.cols := by
  cases m with
  | row t hs nd =>
    obtain ⟨_, _, B, hB, hc⟩ := h
    refine ⟨B, hB, fun b hb => ?_⟩
    cases B with
    | nil => cases hb
    | cons x Bs =>
      obtain ⟨h1, _, h3, _⟩ := hc x Bs rfl
      rcases List.mem_cons.1 hb with rfl | hb
      · simp [M.cols, h1]
      · simp [M.cols, h3 b hb]
  | sha hs => exact h.1
  | nst b E i o p fr => obtain ⟨⟨B, hB, hc⟩, _⟩ := h; exact ⟨B, hB, fun x hx => by simp [M.cols, hc x hx]⟩
  | dead => exact absurd rfl hl

theorem VOk.rep : ∀ {τ : Ty} {x : τ.den} {sh : Sh} {cs : List Value}, VOk w G τ x sh cs → sh.live = true → ∃ B, Rep w τ x cs B ∧ ∀ b ∈ B, G.col b ∈ sh.cols
  | .int _, _, .leaf, _, h, _ => ⟨[], ⟨h, rfl⟩, by simp⟩
  | .bool, _, .leaf, _, h, _ => ⟨[], ⟨h, rfl⟩, by simp⟩
  | .str, _, .leaf, _, h, _ => ⟨[], ⟨h, rfl⟩, by simp⟩
  | .sl e, l, .sl m, cs, h, hl => by
    obtain ⟨v, rfl, hr⟩ := h
    obtain ⟨B, hB, hc⟩ := hr.rep (by rintro rfl; simp [Sh.live] at hl)
    exact ⟨B, ⟨v, rfl, hB⟩, hc⟩
  | .pair a b, p, .pair s1 s2, cs, h, hl => by
    obtain ⟨c1, c2, rfl, h1, h2⟩ := h
    simp only [Sh.live, Bool.and_eq_true] at hl
    obtain ⟨B1, r1, hc1⟩ := VOk.rep h1 hl.1
    obtain ⟨B2, r2, hc2⟩ := VOk.rep h2 hl.2
    refine ⟨B1 ++ B2, ⟨c1, c2, B1, B2, rfl, rfl, r1, r2⟩, fun b hb => ?_⟩
    simp only [Sh.cols, List.mem_append]
    rcases List.mem_append.1 hb with hb | hb
    · exact .inl (hc1 b hb)
    · exact .inr (hc2 b hb)
  | .int _, _, .sl _, _, h, _ | .int _, _, .pair _ _, _, h, _ | .bool, _, .sl _, _, h, _ | .bool, _, .pair _ _, _, h, _
  | .str, _, .sl _, _, h, _ | .str, _, .pair _ _, _, h, _ | .sl _, _, .leaf, _, h, _ | .sl _, _, .pair _ _, _, h, _
  | .pair _ _, _, .leaf, _, h, _ | .pair _ _, _, .sl _, _, h, _ => h.elim

/-- Constants. -/
theorem decode_ok : ∀ {τ : Ty} {cs r : List Value} {x : τ.den}, decode τ cs = some (x, r) → ∃ c, cs = c ++ r ∧ VOk w G τ x (shOf τ (.sha [])) c
  | .int k, cs, r, x, h => by
    match cs, h with
    | .int k' n :: r', h =>
      simp only [decode] at h
      split at h
      · rename_i e; simp only [Option.some.injEq, Prod.mk.injEq] at h; obtain ⟨rfl, rfl⟩ := h; subst e; exact ⟨[_], rfl, rfl⟩
      · cases h
  | .bool, cs, r, x, h => by
    match cs, h with
    | .bool b :: r', h => simp only [decode, Option.some.injEq, Prod.mk.injEq] at h; obtain ⟨rfl, rfl⟩ := h; exact ⟨[_], rfl, rfl⟩
  | .str, cs, r, x, h => by
    match cs, h with
    | .string b :: r', h => simp only [decode, Option.some.injEq, Prod.mk.injEq] at h; obtain ⟨rfl, rfl⟩ := h; exact ⟨[_], rfl, rfl⟩
  | .sl e, cs, r, x, h => by
    match cs, h with
    | .slice none 0 0 :: r', h => simp only [decode, Option.some.injEq, Prod.mk.injEq] at h; obtain ⟨rfl, rfl⟩ := h; exact ⟨[_], rfl, _, rfl, ⟨[], .inl ⟨⟨none, rfl⟩, rfl, rfl⟩, by simp⟩, fun _ => rfl⟩
  | .pair a b, cs, r, x, h => by
    simp only [decode] at h
    split at h
    · rename_i x1 r1 h1
      split at h
      · rename_i y1 r2 h2
        simp only [Option.some.injEq, Prod.mk.injEq] at h
        obtain ⟨rfl, rfl⟩ := h
        obtain ⟨c1, rfl, g1⟩ := decode_ok h1
        obtain ⟨c2, rfl, g2⟩ := decode_ok h2
        exact ⟨c1 ++ c2, by simp, c1, c2, rfl, g1, g2⟩
      · cases h
    · cases h

theorem constV_ok {τ : Ty} {v : Value} {r : TV} (h : constV τ v = some r) : SOk w G (.d r) v ∧ r.sh = shOf r.τ (.sha []) ∧ r.τ = τ := by
  unfold constV at h
  split at h
  · rename_i a b cs
    split at h
    · rename_i x hd
      cases h
      obtain ⟨c, hc, hr⟩ := decode_ok (w := w) (G := G) hd
      refine ⟨⟨c, ?_, hr⟩, rfl, rfl⟩
      simp only [List.append_nil] at hc
      simp [mkv, ← hc]
    · cases h
  · cases h
  · rename_i hnp
    split at h
    · rename_i x hd
      cases h
      obtain ⟨c, hc, hr⟩ := decode_ok (w := w) (G := G) hd
      refine ⟨⟨c, ?_, hr⟩, rfl, rfl⟩
      simp only [List.append_nil] at hc
      subst hc
      cases τ with
      | pair a b =>
        exfalso
        have := hr.len
        simp only [List.length_singleton, Ty.sz] at this
        have h1 := a.sz_pos; have h2 := b.sz_pos; omega
      | _ => rfl
    · cases h

end
end Vg

/- VG, part 7: single operations that yield a value. -/
namespace Vg
open Go

/-- '==' of two values of a struct type. -/
def EqOk (P : Program) (t : TypeId) (τ : Ty) : Prop :=
  ∀ (w : World) (op : BinOp) (x y : Operand) (a b : τ.den) (c1 c2 : List Value), (op = .eql ∨ op = .neq) → Rep w τ a c1 [] → Rep w τ b c2 [] →
    (do eqGuard op t x y (mkv τ c1) (mkv τ c2); binOp op t (mkv τ c1) (mkv τ c2)).run P w = .ok (.bool (if op = .eql then eqv τ a b else !eqv τ a b)) w

structure CxTy (P : Program) (C : Cx) : Prop where
  tt : ∀ t i, C.tt t = some i → TyOk P t i
  eq : ∀ t i, C.tt t = some i → i.τ.isPair = true → i.τ.flat = true → EqOk P t i.τ
  fs : ∀ t i, C.tt t = some i → i.τ.isPair = false → i.fs = []
  u8 : ∀ t i, C.tt t = some i → i.τ = .sl (.int .u8) → P.underlying i.el = some (.int .u8)

def Ment (U : Nat → Prop) (G : Gh) (v : SV) : Prop :=
  (∀ c ∈ v.sc, 0 < c ∧ U c ∧ G.bx c = false) ∧ (∀ c ∈ v.bt, 0 < c ∧ U c ∧ G.bx c = true) ∧ (∀ c ∈ v.rt, 0 < c ∧ U c ∧ G.bx c = false)

/-- What the guards say. -/
def RI (ops : List Oper) (E : Env) (tmps : Array Value) : Prop :=
  ∀ s j w act v, E.s.getD s .no = .g j w act v → (act = true ↔ yielded ops.toArray tmps j = some w)

def Gd (ops : List Oper) (tmps : Array Value) (G : Option (Nat × Bool)) : Prop := ∀ j w, G = some (j, w) → yielded ops.toArray tmps j = some w

/-- An operation yields a told value. -/
def Yields (w0 : World) (c0 : C0) (U : Nat → Prop) (E : Env) (a : Act) (r : Result Next) (sv : SV) : Prop :=
  ∃ mv w' G', r = .ok (.value mv) w' ∧ Inv w0 c0 U E a w' G' ∧ SOk w' G' sv mv ∧ Ment U G' sv ∧ (∀ t u, sv = .box t u → ∀ s u', E.s.getD s .no ≠ .box t u')

section
variable {P : Program} {C : Cx} {w0 : World} {c0 : C0} {U : Nat → Prop} {E : Env} {a : Act} {w : World} {G : Gh} {ops : List Oper} {g : Option (Nat × Bool)}

theorem Inv.ment (h : Inv w0 c0 U E a w G) (s : Nat) : Ment U G (E.s.getD s .no) := ⟨h.sc s, h.bt s, h.rt s⟩

theorem Ment.nil {v : TV} (h : v.sh.cols = []) : Ment U G (.d v) := ⟨by simp [SV.sc, h], by simp [SV.bt], by simp [SV.rt]⟩

theorem Ment.d {v : TV} (h : ∀ c ∈ v.sh.cols, 0 < c ∧ U c ∧ G.bx c = false) : Ment U G (.d v) := ⟨h, by simp [SV.bt], by simp [SV.rt]⟩

theorem ung_ok {s : SV} {v : Value} (hI : SOk w G s v) (hR : ∀ j w' act u, s = .g j w' act u → (act = true ↔ yielded ops.toArray a.tmps j = some w')) (hg : Gd ops a.tmps g) {sv : SV} (h : ung g s = some sv) :
    SOk w G sv v ∧ (∀ c ∈ sv.sc, c ∈ s.sc) ∧ (∀ c ∈ sv.bt, c ∈ s.bt) ∧ (∀ c ∈ sv.rt, c ∈ s.rt) := by
  cases s with
  | g j w' act u =>
    simp only [ung] at h
    split at h
    · rename_i e
      cases h
      have hact : act = true := (hR j w' act sv rfl).2 (hg j w' e)
      subst hact
      exact ⟨(hI.1 rfl).2, fun c hc => by simpa [SV.sc] using hc, fun c hc => by simpa [SV.bt] using hc, fun c hc => by simpa [SV.rt] using hc⟩
    · cases h
  | _ => simp only [ung, Option.some.injEq] at h; subst h; exact ⟨hI, fun c hc => hc, fun c hc => hc, fun c hc => hc⟩

theorem alias_sok : ∀ {sv : SV} {v : Value}, SOk w G sv v → SOk w G (alias_ sv) v
  | .box t u, v, h => by obtain ⟨bk, c, el, h1, h2, h3, h4, h5, h6⟩ := h; exact ⟨bk, h2, h3.trans h1, h1⟩
  | .g j w' act u, v, h => ⟨fun e => ⟨by
      have := (h.1 e).1
      cases u <;> first | rfl | (simp [SV.isBox] at this), alias_sok (h.1 e).2⟩, h.2⟩
  | .no, _, h | .d _, _, h | .ptr .., _, h | .ept .., _, h | .rdp .., _, h | .tup _, _, h => h

theorem alias_sub : ∀ sv : SV, (∀ c ∈ (alias_ sv).sc, c ∈ sv.sc) ∧ (∀ c ∈ (alias_ sv).bt, c ∈ sv.bt) ∧ (∀ c ∈ (alias_ sv).rt, c ∈ sv.rt)
  | .box t u => ⟨by simp [alias_, SV.sc], by simp [alias_, SV.bt], by simp [alias_, SV.rt]⟩
  | .g j w' true u => by
    obtain ⟨h1, h2, h3⟩ := alias_sub u
    exact ⟨fun c hc => by simp only [alias_, SV.sc, if_true] at hc ⊢; exact h1 c hc, fun c hc => by simp only [alias_, SV.bt, if_true] at hc ⊢; exact h2 c hc, fun c hc => by simp only [alias_, SV.rt, if_true] at hc ⊢; exact h3 c hc⟩
  | .g j w' false u => ⟨fun c hc => by simp [alias_, SV.sc] at hc, fun c hc => by simp [alias_, SV.bt] at hc, fun c hc => by simp [alias_, SV.rt] at hc⟩
  | .no | .d _ | .ptr .. | .ept .. | .rdp .. | .tup _ => ⟨fun _ h => h, fun _ h => h, fun _ h => h⟩

theorem alias_nobox : ∀ sv t u, alias_ sv ≠ .box t u
  | .box _ _, _, _, h | .g _ _ _ _, _, _, h | .no, _, _, h | .d _, _, _, h | .ptr .., _, _, h | .ept .., _, _, h | .rdp .., _, _, h | .tup _, _, _, h => by simp [alias_] at h

theorem opnd_ok (hI : Inv w0 c0 U E a w G) {t : TypeId} {x : Operand} {sv : SV} (h : opnd C E.rd t x = some sv) : SOk w G sv (a.eval x) ∧ Ment U G sv := by
  cases x with
  | tmp s =>
    simp only [opnd, Option.some.injEq] at h
    subst h
    have hm := hI.ment s
    obtain ⟨h1, h2, h3⟩ := alias_sub (E.s.getD s .no)
    exact ⟨alias_sok (hI.slots s), fun c hc => hm.1 c (h1 c hc), fun c hc => hm.2.1 c (h2 c hc), fun c hc => hm.2.2 c (h3 c hc)⟩
  | const v =>
    simp only [opnd] at h
    split at h
    · rw [Option.map_eq_some_iff] at h
      obtain ⟨r, hr, rfl⟩ := h
      obtain ⟨h1, h2, h3⟩ := constV_ok (w := w) (G := G) hr
      refine ⟨h1, Ment.d fun c hc => ?_⟩
      rw [h2] at hc
      have := shOf_cols _ _ c hc
      simp [M.cols] at this
    · cases h
  | global g => simp [opnd] at h
  | func f => simp [opnd] at h

theorem opnd_g (hR : RI ops E a.tmps) {t : TypeId} {x : Operand} {s : SV} (h : opnd C E.rd t x = some s) :
    ∀ j w' act u, s = .g j w' act u → (act = true ↔ yielded ops.toArray a.tmps j = some w') := by
  intro j w' act u e
  cases x with
  | tmp n =>
    simp only [opnd, Option.some.injEq] at h
    have h' : alias_ (E.s.getD n .no) = .g j w' act u := h.trans e
    cases hs : E.s.getD n .no with
    | g j' w'' act' u' => rw [hs] at h'; simp only [alias_, SV.g.injEq] at h'; obtain ⟨rfl, rfl, rfl, _⟩ := h'; exact hR n j' w'' act' u' hs
    | _ => rw [hs] at h'; simp [alias_] at h'
  | const v =>
    simp only [opnd] at h
    split at h
    · rw [Option.map_eq_some_iff] at h; obtain ⟨r, hr, rfl⟩ := h; cases e
    · cases h
  | global g => simp [opnd] at h
  | func f => simp [opnd] at h

theorem opnd_nobox {t : TypeId} {x : Operand} {s : SV} (h : opnd C E.rd t x = some s) : ∀ b u, s ≠ .box b u := by
  intro b u e
  cases x with
  | tmp n => simp only [opnd, Option.some.injEq] at h; exact alias_nobox _ b u (h.trans e)
  | const v =>
    simp only [opnd] at h
    split at h
    · rw [Option.map_eq_some_iff] at h; obtain ⟨r, hr, rfl⟩ := h; cases e
    · cases h
  | global g => simp [opnd] at h
  | func f => simp [opnd] at h

theorem arg_ok (hI : Inv w0 c0 U E a w G) (hR : RI ops E a.tmps) (hg : Gd ops a.tmps g) {t : TypeId} {x : Operand} {sv : SV} (h : arg C E.rd g t x = some sv) :
    SOk w G sv (a.eval x) ∧ Ment U G sv := by
  simp only [arg, Option.bind_eq_some_iff] at h
  obtain ⟨s, hs, hu⟩ := h
  obtain ⟨h1, h2⟩ := opnd_ok hI hs
  obtain ⟨h3, h4, h5, h6⟩ := ung_ok h1 (opnd_g hR hs) hg hu
  exact ⟨h3, fun c hc => h2.1 c (h4 c hc), fun c hc => h2.2.1 c (h5 c hc), fun c hc => h2.2.2 c (h6 c hc)⟩

theorem argD_ok (hI : Inv w0 c0 U E a w G) (hR : RI ops E a.tmps) (hg : Gd ops a.tmps g) {t : TypeId} {x : Operand} {v : TV} (h : argD C E.rd g t x = some v) :
    (∃ cs, a.eval x = mkv v.τ cs ∧ VOk w G v.τ v.x v.sh cs) ∧ (∀ c ∈ v.sh.cols, 0 < c ∧ U c ∧ G.bx c = false) ∧ v.sh.live = true := by
  simp only [argD] at h
  split at h
  · rename_i u hu
    split at h
    · rename_i hl
      cases h
      obtain ⟨h1, h2⟩ := arg_ok hI hR hg hu
      exact ⟨h1, h2.1, hl⟩
    · cases h
  · cases h

/- scalars -/
theorem eval_int (hI : Inv w0 c0 U E a w G) (hR : RI ops E a.tmps) (hg : Gd ops a.tmps g) {t : TypeId} {x : Operand} {k : IntKind} {n : Int} {sh : Sh}
    (h : argD C E.rd g t x = some ⟨.int k, n, sh⟩) : a.eval x = .int k n := by
  obtain ⟨⟨cs, h1, h2⟩, _⟩ := argD_ok hI hR hg h
  cases sh with
  | leaf => rw [h1, show cs = _ from h2]; rfl
  | sl m => exact h2.elim
  | pair a b => exact h2.elim

theorem eval_bool (hI : Inv w0 c0 U E a w G) (hR : RI ops E a.tmps) (hg : Gd ops a.tmps g) {t : TypeId} {x : Operand} {b : Bool} {sh : Sh}
    (h : argD C E.rd g t x = some ⟨.bool, b, sh⟩) : a.eval x = .bool b := by
  obtain ⟨⟨cs, h1, h2⟩, _⟩ := argD_ok hI hR hg h
  cases sh with
  | leaf => rw [h1, show cs = _ from h2]; rfl
  | sl m => exact h2.elim
  | pair a b => exact h2.elim

theorem eval_str (hI : Inv w0 c0 U E a w G) (hR : RI ops E a.tmps) (hg : Gd ops a.tmps g) {t : TypeId} {x : Operand} {s : ByteArray} {sh : Sh}
    (h : argD C E.rd g t x = some ⟨.str, s, sh⟩) : a.eval x = .string s := by
  obtain ⟨⟨cs, h1, h2⟩, _⟩ := argD_ok hI hR hg h
  cases sh with
  | leaf => rw [h1, show cs = _ from h2]; rfl
  | sl m => exact h2.elim
  | pair a b => exact h2.elim

theorem eval_sl (hI : Inv w0 c0 U E a w G) (hR : RI ops E a.tmps) (hg : Gd ops a.tmps g) {t : TypeId} {x : Operand} {e : Ty} {l : List e.den} {sh : Sh}
    (h : argD C E.rd g t x = some ⟨.sl e, l, sh⟩) : ∃ m, sh = .sl m ∧ RowOk w G e l (a.eval x) m ∧ m ≠ .dead ∧ (∀ c ∈ m.cols, 0 < c ∧ U c ∧ G.bx c = false) := by
  obtain ⟨⟨cs, h1, h2⟩, h3, h4⟩ := argD_ok hI hR hg h
  cases sh with
  | leaf => exact h2.elim
  | sl m =>
    obtain ⟨v, rfl, hr⟩ := h2
    exact ⟨m, rfl, by rw [h1]; exact hr, by rintro rfl; simp [Sh.live] at h4, h3⟩
  | pair a b => exact h2.elim

theorem yields_same (hI : Inv w0 c0 U E a w G) {r : Result Next} {sv : SV} {mv : Value} (hr : r = .ok (.value mv) w) (hs : SOk w G sv mv) (hm : Ment U G sv)
    (hb : ∀ t u, sv ≠ .box t u) : Yields w0 c0 U E a r sv := ⟨mv, w, G, hr, hI, hs, hm, fun t u e => absurd e (hb t u)⟩

theorem ok_int (k : IntKind) (n : Int) : SOk w G (vI k n) (.int k n) := ⟨_, rfl, rfl⟩
theorem ok_bool (b : Bool) : SOk w G (vB b) (.bool b) := ⟨_, rfl, rfl⟩
theorem ok_str (s : ByteArray) : SOk w G (vS s) (.string s) := ⟨_, rfl, rfl⟩
theorem ment_int (k : IntKind) (n : Int) : Ment U G (vI k n) := Ment.nil rfl
theorem ment_bool (b : Bool) : Ment U G (vB b) := Ment.nil rfl
theorem ment_str (s : ByteArray) : Ment U G (vS s) := Ment.nil rfl

theorem yields_int (hI : Inv w0 c0 U E a w G) {r : Result Next} {k : IntKind} {n : Int} (hr : r = .ok (.value (.int k n)) w) : Yields w0 c0 U E a r (vI k n) :=
  yields_same hI hr (ok_int k n) (ment_int k n) (by rintro t u ⟨⟩)
theorem yields_bool (hI : Inv w0 c0 U E a w G) {r : Result Next} {b : Bool} (hr : r = .ok (.value (.bool b)) w) : Yields w0 c0 U E a r (vB b) :=
  yields_same hI hr (ok_bool b) (ment_bool b) (by rintro t u ⟨⟩)
theorem yields_str (hI : Inv w0 c0 U E a w G) {r : Result Next} {s : ByteArray} (hr : r = .ok (.value (.string s)) w) : Yields w0 c0 U E a r (vS s) :=
  yields_same hI hr (ok_str s) (ment_str s) (by rintro t u ⟨⟩)

/-- What an effect without writing asks. -/
def EfY (w0 : World) (c0 : C0) (U : Nat → Prop) (E : Env) (a : Act) (r : Result Next) : Ef → Prop
  | .val v => Yields w0 c0 U E a r v
  | .chk c v => c = true → Yields w0 c0 U E a r v
  | _ => False

/- move, assign -/
theorem alias_g : ∀ {sv : SV} {j w' act u}, alias_ sv = .g j w' act u → ∃ u', sv = .g j w' act u' ∧ u = alias_ u'
  | .g _ _ _ v, j, w', act, u, h => by simp only [alias_, SV.g.injEq] at h; obtain ⟨rfl, rfl, rfl, rfl⟩ := h; exact ⟨v, rfl, rfl⟩
  | .box _ _, _, _, _, _, h | .no, _, _, _, _, h | .d _, _, _, _, _, h | .ptr .., _, _, _, _, h | .ept .., _, _, _, _, h | .rdp .., _, _, _, _, h | .tup _, _, _, _, _, h => by simp [alias_] at h

theorem arg_nobox {t : TypeId} {x : Operand} {sv : SV} (h : arg C E.rd g t x = some sv) : ∀ b u, sv ≠ .box b u := by
  intro b u e
  subst e
  simp only [arg, Option.bind_eq_some_iff] at h
  obtain ⟨s, hs, hu⟩ := h
  cases x with
  | tmp n =>
    simp only [opnd, Option.some.injEq] at hs
    cases hsv : s with
    | g j w' act v =>
      obtain ⟨u', _, rfl⟩ := alias_g (hs.trans hsv)
      rw [hsv] at hu
      simp only [ung] at hu
      split at hu
      · simp only [Option.some.injEq] at hu; exact alias_nobox _ b u hu
      · cases hu
    | _ =>
      rw [hsv] at hu
      simp only [ung, Option.some.injEq, reduceCtorEq] at hu
      try (rw [← hs] at hsv; exact alias_nobox _ b u (hsv.trans hu))
  | const v =>
    simp only [opnd] at hs
    split at hs
    · rw [Option.map_eq_some_iff] at hs; obtain ⟨r, hr, rfl⟩ := hs; simp [ung] at hu
    · cases hs
  | global g => simp [opnd] at hs
  | func f => simp [opnd] at hs

theorem move_ok (hI : Inv w0 c0 U E a w G) (hR : RI ops E a.tmps) (hg : Gd ops a.tmps g) {t : TypeId} {x : Operand} {sv : SV} (h : arg C E.rd g t x = some sv)
    {r : Result Next} (hr : r = .ok (.value (a.eval x)) w) : Yields w0 c0 U E a r sv :=
  yields_same hI hr (arg_ok hI hR hg h).1 (arg_ok hI hR hg h).2 (arg_nobox h)

theorem binI_ok (hI : Inv w0 c0 U E a w G) {op : BinOp} {k k' : IntKind} {m n : Int} {t : TypeId} {x y : Operand} {ef : Ef} (hk : k = k' ∨ op = .shl ∨ op = .shr)
    (hx : a.eval x = .int k m) (hy : a.eval y = .int k' n) (h : binI op k m n = some ef) :
    EfY w0 c0 U E a ((do pure (.value (← (do eqGuard op t x y (a.eval x) (a.eval y); binOp op t (a.eval x) (a.eval y)))) : Sem Next).run P w) ef := by
  rw [hx, hy]
  have hgd : ∀ v, eqGuard op t x y (.int k m) v = pure () := fun v => eqGuard_at_int ..
  cases op <;> simp only [binI, Option.some.injEq, reduceCtorEq] at h <;> (try cases h) <;> simp only [EfY]
  case add =>
    obtain rfl : k = k' := (by simpa using hk)
    exact yields_int hI (by simp [hgd, binOp, Op.intArith])
  case sub =>
    obtain rfl : k = k' := (by simpa using hk)
    exact yields_int hI (by simp [hgd, binOp, Op.intArith])
  case mul =>
    obtain rfl : k = k' := (by simpa using hk)
    exact yields_int hI (by simp [hgd, binOp, Op.intArith])
  case quo =>
    obtain rfl : k = k' := (by simpa using hk)
    intro hc; have hc := of_decide_eq_true hc; exact yields_int hI (by simp [hgd, binOp, Op.intDiv, hc])
  case rem =>
    obtain rfl : k = k' := (by simpa using hk)
    intro hc; have hc := of_decide_eq_true hc; exact yields_int hI (by simp [hgd, binOp, Op.intDiv, hc])
  case and =>
    obtain rfl : k = k' := (by simpa using hk)
    exact yields_int hI (by simp [hgd, binOp, Op.intBits, bits])
  case or =>
    obtain rfl : k = k' := (by simpa using hk)
    exact yields_int hI (by simp [hgd, binOp, Op.intBits, bits])
  case xor =>
    obtain rfl : k = k' := (by simpa using hk)
    exact yields_int hI (by simp [hgd, binOp, Op.intBits, bits])
  case shl => intro hc; have hc := of_decide_eq_true hc; exact yields_int hI (by simp [hgd, binOp, Op.shift, Int.not_lt.2 hc])
  case shr => intro hc; have hc := of_decide_eq_true hc; exact yields_int hI (by simp [hgd, binOp, Op.shift, Int.not_lt.2 hc])
  case eql =>
    obtain rfl : k = k' := (by simpa using hk)
    exact yields_bool hI (by simp [hgd, binOp, Op.intCmp])
  case neq =>
    obtain rfl : k = k' := (by simpa using hk)
    exact yields_bool hI (by simp [hgd, binOp, Op.intCmp])
  case lss =>
    obtain rfl : k = k' := (by simpa using hk)
    exact yields_bool hI (by simp [hgd, binOp, Op.intCmp])
  case leq =>
    obtain rfl : k = k' := (by simpa using hk)
    exact yields_bool hI (by simp [hgd, binOp, Op.intCmp])
  case gtr =>
    obtain rfl : k = k' := (by simpa using hk)
    exact yields_bool hI (by simp [hgd, binOp, Op.intCmp])
  case geq =>
    obtain rfl : k = k' := (by simpa using hk)
    exact yields_bool hI (by simp [hgd, binOp, Op.intCmp])

theorem binS_ok (hI : Inv w0 c0 U E a w G) {op : BinOp} {m n : ByteArray} {t : TypeId} {x y : Operand} {ef : Ef}
    (hx : a.eval x = .string m) (hy : a.eval y = .string n) (h : binS op m n = some ef) :
    EfY w0 c0 U E a ((do pure (.value (← (do eqGuard op t x y (a.eval x) (a.eval y); binOp op t (a.eval x) (a.eval y)))) : Sem Next).run P w) ef := by
  rw [hx, hy]
  have hgd : ∀ v, eqGuard op t x y (.string m) v = pure () := fun v => eqGuard_at_string ..
  cases op <;> simp only [binS, Option.some.injEq, reduceCtorEq] at h <;> (try cases h) <;> simp only [EfY]
  case add =>
    intro hc
    have hc := of_decide_eq_true hc
    have hn : ¬ (9223372036854775807 < (m.size : Int) + (n.size : Int)) := by omega
    exact yields_str hI (by simp [hgd, binOp, Op.stringOp, hn])
  case eql => exact yields_bool hI (by simp [hgd, binOp, Op.stringOp])
  case neq => exact yields_bool hI (by simp [hgd, binOp, Op.stringOp])
  case lss => exact yields_bool hI (by simp [hgd, binOp, Op.stringOp])
  case leq => exact yields_bool hI (by simp [hgd, binOp, Op.stringOp])
  case gtr => exact yields_bool hI (by simp [hgd, binOp, Op.stringOp])
  case geq => exact yields_bool hI (by simp [hgd, binOp, Op.stringOp])

end
end Vg

/- VG, part 8: addresses, loads, new memory. -/
namespace Vg
open Go

section
variable {P : Program} {C : Cx} {w0 : World} {c0 : C0} {U : Nat → Prop} {E : Env} {a : Act} {w : World} {G : Gh} {ops : List Oper} {g : Option (Nat × Bool)}

theorem findBox_get : ∀ (l : List SV) (t k s : Nat) (v : TV), findBox l t k = some (s, v) → k ≤ s ∧ l.getD (s - k) .no = .box t v
  | [], _, _, _, _, h => by simp [findBox] at h
  | x :: l, t, k, s, v, h => by
    have step : findBox l t (k + 1) = some (s, v) → k ≤ s ∧ (x :: l).getD (s - k) .no = .box t v := by
      intro h
      obtain ⟨h1, h2⟩ := findBox_get l t (k + 1) s v h
      refine ⟨by omega, ?_⟩
      rw [show s - k = (s - (k + 1)) + 1 by omega]
      simpa using h2
    cases x with
    | box u y =>
      simp only [findBox] at h
      split at h
      · rename_i e; simp only [Option.some.injEq, Prod.mk.injEq] at h; obtain ⟨rfl, rfl⟩ := h; subst e; exact ⟨Nat.le_refl _, by simp⟩
      · exact step h
    | _ => exact step h

theorem rowIn_ok : ∀ {τ : Ty} {x : τ.den} {sh : Sh} {cs : List Value} {t : Nat} {e : Ty} {l : List e.den} {hs : List Nat} {nd : Bool},
    VOk w G τ x sh cs → rowIn t e τ x sh = some (l, hs, nd) → ∃ v, RowOk w G e l v (.row t hs nd) ∧ (∀ c ∈ hs, c ∈ sh.cols) ∧ t ∈ sh.cols
  | .sl e', l', .sl (.row u hs' nd'), cs, t, e, l, hs, nd, hv, h => by
    obtain ⟨v, rfl, hr⟩ := hv
    simp only [rowIn] at h
    split at h
    · rename_i e1
      split at h
      · rename_i e2
        subst e1 e2
        simp only [cast_eq, Option.some.injEq, Prod.mk.injEq] at h
        obtain ⟨rfl, rfl, rfl⟩ := h
        exact ⟨v, hr, fun c hc => by simp [Sh.cols, M.cols, hc], by simp [Sh.cols, M.cols]⟩
      · cases h
    · cases h
  | .pair a b, p, .pair s1 s2, cs, t, e, l, hs, nd, hv, h => by
    obtain ⟨c1, c2, rfl, h1, h2⟩ := hv
    simp only [rowIn] at h
    split at h
    · rename_i r hr
      cases h
      obtain ⟨v, g1, g2, g3⟩ := rowIn_ok h1 hr
      exact ⟨v, g1, fun c hc => by simp [Sh.cols, g2 c hc], by simp [Sh.cols, g3]⟩
    · obtain ⟨v, g1, g2, g3⟩ := rowIn_ok h2 h
      exact ⟨v, g1, fun c hc => by simp [Sh.cols, g2 c hc], by simp [Sh.cols, g3]⟩
  | .sl _, _, .leaf, _, _, _, _, _, _, _, h | .sl _, _, .pair _ _, _, _, _, _, _, _, _, h | .sl _, _, .sl (.sha _), _, _, _, _, _, _, _, h | .sl _, _, .sl .dead, _, _, _, _, _, _, _, h
  | .int _, _, _, _, _, _, _, _, _, _, h | .bool, _, _, _, _, _, _, _, _, _, h | .str, _, _, _, _, _, _, _, _, _, h
  | .pair _ _, _, .leaf, _, _, _, _, _, _, _, h | .pair _ _, _, .sl _, _, _, _, _, _, _, _, h => by simp [rowIn] at h

theorem findRow_ok : ∀ (L : List SV) {t : Nat} {e : Ty} {l : List e.den} {hs : List Nat} {nd : Bool}, (∀ s ∈ L, ∃ mv, SOk w G s mv) → findRow t e L = some (l, hs, nd) →
    ∃ s ∈ L, (∃ v, RowOk w G e l v (.row t hs nd)) ∧ (∀ c ∈ hs, c ∈ s.sc) ∧ t ∈ s.sc
  | [], _, _, _, _, _, _, h => by simp [findRow] at h
  | x :: L, t, e, l, hs, nd, hL, h => by
    have step : findRow t e L = some (l, hs, nd) → ∃ s ∈ x :: L, (∃ v, RowOk w G e l v (.row t hs nd)) ∧ (∀ c ∈ hs, c ∈ s.sc) ∧ t ∈ s.sc := by
      intro h
      obtain ⟨s, h1, h2⟩ := findRow_ok L (fun s hs => hL s (List.mem_cons_of_mem _ hs)) h
      exact ⟨s, List.mem_cons_of_mem _ h1, h2⟩
    obtain ⟨mv, hx⟩ := hL x (by simp)
    cases x with
    | d v =>
      simp only [findRow] at h
      split at h
      · rename_i r hr
        cases h
        obtain ⟨cs, _, hv⟩ := hx
        obtain ⟨u, g1, g2, g3⟩ := rowIn_ok hv hr
        exact ⟨.d v, by simp, ⟨u, g1⟩, g2, g3⟩
      · exact step h
    | box b v =>
      simp only [findRow] at h
      split at h
      · rename_i r hr
        cases h
        obtain ⟨bk, c, el, _, _, _, _, _, hv⟩ := hx
        obtain ⟨u, g1, g2, g3⟩ := rowIn_ok hv hr
        exact ⟨.box b v, by simp, ⟨u, g1⟩, g2, g3⟩
      · exact step h
    | _ => exact step h

theorem Inv.findRow (hI : Inv w0 c0 U E a w G) {t : Nat} {e : Ty} {l : List e.den} {hs : List Nat} {nd : Bool} (h : E.rd.row t e = some (l, hs, nd)) :
    (∃ v, RowOk w G e l v (.row t hs nd)) ∧ (∀ c ∈ t :: hs, 0 < c ∧ U c ∧ G.bx c = false) := by
  obtain ⟨s, h1, h2, h3, h4⟩ := findRow_ok (w := w) (G := G) E.s (fun s hs => by
    obtain ⟨i, hi, rfl⟩ := List.mem_iff_getElem.1 hs
    exact ⟨_, by have := hI.slots i; simpa [List.getD, hi] using this⟩) h
  obtain ⟨i, hi, rfl⟩ := List.mem_iff_getElem.1 h1
  refine ⟨h2, fun c hc => ?_⟩
  have := hI.sc i c
  simp only [List.getD, hi, List.getElem?_eq_getElem, Option.getD_some] at this
  rcases List.mem_cons.1 hc with rfl | hc
  · exact this h4
  · exact this (h3 c hc)

theorem Inv.box (hI : Inv w0 c0 U E a w G) {t s : Nat} {v : TV} (h : E.rd.box t = some (s, v)) :
    E.s.getD s .no = .box t v ∧ ∃ bk c el, G.hdr t = .pointer (some ⟨bk, 0, none⟩) ∧ 3 ≤ t ∧ G.col bk = t ∧ w.heap[bk]? = some (.cells c el (0, 0)) ∧ VOk w G v.τ v.x v.sh c.toList ∧ (∀ c ∈ v.sh.cols, 0 < c ∧ U c ∧ G.bx c = false) := by
  obtain ⟨_, h2⟩ := findBox_get E.s t 0 s v h
  simp only [Nat.sub_zero] at h2
  have hs := hI.slots s
  have hc := hI.sc s
  rw [h2] at hs hc
  obtain ⟨bk, c, el, g1, g2, g3, g4, g5, g6⟩ := hs
  exact ⟨h2, bk, c, el, g3.trans g1, g2, g4, g5, g6, hc⟩

/-- Element i of a row: its cells, its blocks. -/
theorem RowOk.elem {e : Ty} {l : List e.den} {v : Value} {t : Nat} {hs : List Nat} {nd : Bool} (h : RowOk w G e l v (.row t hs nd)) {i : Nat} (hi : i < l.length) :
    ∃ b off cap c el fz B, v = .slice (some ⟨b, off, none⟩) l.length cap ∧ w.heap[b]? = some (.cells c el fz) ∧ off + cap * e.sz ≤ c.size ∧ l.length ≤ cap ∧ G.col b = t ∧
      Rep w e (l.getD i e.dflt) ((c.toList.drop (off + i * e.sz)).take e.sz) B ∧ (∀ x ∈ B, G.col x ∈ hs) := by
  obtain ⟨_, _, B, hB, hc⟩ := h
  rcases hB with ⟨_, rfl, _⟩ | ⟨b, off, cap, c, el, fz, Bs, hv, hcap, hb, hsz, rfl, hl⟩
  · simp at hi
  · obtain ⟨h1, _, h3, _⟩ := hc b Bs rfl
    have hx : l[i]? = some l[i] := List.getElem?_eq_getElem hi
    obtain ⟨B1, Bx, B2, rfl, hr, _, _⟩ := RepL.get (sz := e.sz) (fun x c B h => Rep.len h) hl hx
    refine ⟨b, off, cap, c, el, fz, Bx, hv, hb, hsz, hcap, h1, ?_, fun x hx => h3 x (by simp [hx])⟩
    have hmul : (i + 1) * e.sz ≤ l.length * e.sz := Nat.mul_le_mul_right _ hi
    rw [Nat.add_mul, Nat.one_mul] at hmul
    rw [List.getD, hx, Option.getD_some]
    rw [List.drop_take, List.take_take, List.drop_drop, Nat.min_eq_left (by omega)] at hr
    exact hr

theorem RepS.elem {e : Ty} {l : List e.den} {v : Value} {B : List Nat} (h : RepS w e.sz (Rep w e) l v B) {i : Nat} (hi : i < l.length) :
    ∃ b off cap c el fz B', v = .slice (some ⟨b, off, none⟩) l.length cap ∧ w.heap[b]? = some (.cells c el fz) ∧ off + cap * e.sz ≤ c.size ∧ l.length ≤ cap ∧ b ∈ B ∧
      Rep w e (l.getD i e.dflt) ((c.toList.drop (off + i * e.sz)).take e.sz) B' ∧ (∀ x ∈ B', x ∈ B) := by
  rcases h with ⟨_, rfl, _⟩ | ⟨b, off, cap, c, el, fz, Bs, hv, hcap, hb, hsz, rfl, hl⟩
  · simp at hi
  · have hx : l[i]? = some l[i] := List.getElem?_eq_getElem hi
    obtain ⟨B1, Bx, B2, rfl, hr, _, _⟩ := RepL.get (sz := e.sz) (fun x c B h => Rep.len h) hl hx
    refine ⟨b, off, cap, c, el, fz, Bx, hv, hb, hsz, hcap, by simp, ?_, fun x hx => by simp [hx]⟩
    have hmul : (i + 1) * e.sz ≤ l.length * e.sz := Nat.mul_le_mul_right _ hi
    rw [Nat.add_mul, Nat.one_mul] at hmul
    rw [List.getD, hx, Option.getD_some]
    rw [List.drop_take, List.take_take, List.drop_drop, Nat.min_eq_left (by omega)] at hr
    exact hr

theorem run_fieldAt {s : TypeId} {i : TI} (hT : TyOk P s i) {j : Nat} (hj : j < i.fs.length) (b o : Nat) :
    (Instr.fieldAt s (.pointer (some ⟨b, o, none⟩)) j).run P w = .ok (.pointer (some ⟨b, o + i.τ.off (fpath i.fs.length j), none⟩)) w ∨ i.τ.isPair = false := by
  obtain ⟨_, hT⟩ := hT
  cases hτ : i.τ with
  | pair x y =>
    rw [hτ] at hT
    obtain ⟨fields, hu, hsz, hf⟩ := hT
    left
    have hjf : j < fields.size := by omega
    obtain ⟨h1, h2, σ', h3, h4⟩ := hf j fields[j] (Array.getElem?_eq_getElem hjf)
    have hz : σ'.sz ≠ 0 := Nat.ne_of_gt σ'.sz_pos
    simp [Instr.fieldAt, run_underlying hu, Array.getElem?_eq_getElem hjf, Instr.sureAddr, fieldPlace, run_sizeOf' h4, hz, h1, Addr.add_lit]
  | _ => right; rfl

theorem sub_pair {τ σ : Ty} {b : Bool} {p : List Bool} (h : τ.sub (b :: p) = some σ) : τ.isPair = true := by
  cases τ <;> simp [Ty.sub, Ty.isPair] at h ⊢

theorem off_sub : ∀ {p q : List Bool} {τ σ : Ty}, τ.sub p = some σ → τ.off (p ++ q) = τ.off p + σ.off q
  | [], q, τ, σ, h => by cases τ <;> simp [Ty.sub] at h <;> subst h <;> simp [Ty.off]
  | false :: p, q, .pair a b, σ, h => by simp only [Ty.sub] at h; simp [Ty.off, off_sub h]
  | true :: p, q, .pair a b, σ, h => by simp only [Ty.sub] at h; simp [Ty.off, off_sub h, Nat.add_assoc]
  | _ :: _, _, .int _, _, h | _ :: _, _, .bool, _, h | _ :: _, _, .str, _, h | _ :: _, _, .sl _, _, h => by simp [Ty.sub] at h

/-- Reading memory through a pointer that only reads. -/
theorem rdp_sub {hs : List Nat} {v r : TV} {mv : Value} {p : List Bool} (h : SOk w G (.rdp hs v) mv) (hr : subV v.τ v.x v.sh p = some r) :
    ∃ b o, mv = .pointer (some ⟨b, o, none⟩) ∧ SOk w G (.rdp hs r) (.pointer (some ⟨b, o + v.τ.off p, none⟩)) := by
  obtain ⟨b, o, c, el, fz, h1, h2, h3, h4, h5⟩ := h
  obtain ⟨g1, g2, g3, _⟩ := VOk.sub hr h5
  refine ⟨b, o, h1, b, o + v.τ.off p, c, el, fz, rfl, h2, by omega, h4, ?_⟩
  rw [List.drop_take, List.take_take, List.drop_drop, Nat.min_eq_left (by omega)] at g1
  exact g1

/-- A new block, behind which everything told reads as before. -/
theorem alloc_agree (hI : Inv w0 c0 U E a w G) {t : Nat} (hU : ¬ U t) (o : Obj) (v : Value) (x : Bool) (S : List Nat) (hS : ∀ c ∈ S, 0 < c ∧ U c) :
    Agree S S w (w.alloc o) G (G.add w.heap.size t v x) := by
  refine ⟨fun b hb => ?_, fun b hb => ?_, fun u hu => ?_⟩
  · exact heap_alloc_old w _ b (hI.lt b (hS _ hb).1)
  · have := hI.lt b (hS _ hb).1
    simp [Gh.add, Nat.ne_of_lt this]
  · have : u ≠ t := fun e => hU (e ▸ (hS u hu).2)
    simp [Gh.add, this]

theorem fresh_nobox (hI : Inv w0 c0 U E a w G) {t : Nat} (hU : ¬ U t) (s : Nat) (u : TV) : E.s.getD s .no ≠ .box t u := by
  intro e
  have := hI.bt s t (by rw [e]; simp [SV.bt])
  exact hU this.2.1

/-- A new variable. -/
theorem newVar_ok (hI : Inv w0 c0 U E a w G) {t : Nat} (ht : 3 ≤ t) (hU : ¬ U t) {v : TV} {cs : List Value} (hv : VOk w G v.τ v.x v.sh cs)
    (hc : ∀ c ∈ v.sh.cols, 0 < c ∧ U c ∧ G.bx c = false) (el : TypeId) {r : Result Next}
    (hr : r = .ok (.value (.pointer (some ⟨w.heap.size, 0, none⟩))) (w.alloc (.cells cs.toArray el))) : Yields w0 c0 (fun u => U u ∨ u = t) E a r (.box t v) := by
  refine ⟨_, _, G.add w.heap.size t (.pointer (some ⟨w.heap.size, 0, none⟩)) true, hr, hI.alloc ht hU _ _ _ _, ⟨w.heap.size, cs.toArray, el, rfl, ht, by simp [Gh.add], by simp [Gh.add], heap_alloc_new w _, ?_⟩, ⟨?_, ?_, ?_⟩, ?_⟩
  · exact VOk.agree (alloc_agree hI hU _ _ _ _ (fun c h => ⟨(hc c h).1, (hc c h).2.1⟩)) hv
  · intro c h
    have := hc c h
    have hne : c ≠ t := fun e => hU (e ▸ this.2.1)
    exact ⟨this.1, .inl this.2.1, by simp [Gh.add, hne, this.2.2]⟩
  · intro c h
    simp only [SV.bt, List.mem_singleton] at h
    subst h
    exact ⟨by omega, .inr rfl, by simp [Gh.add]⟩
  · intro c h; simp [SV.rt] at h
  · intro t' u e s u'
    cases e
    exact fresh_nobox hI hU s u'

/-- A new row. -/
theorem newRow_ok (hI : Inv w0 c0 U E a w G) {t : Nat} (ht : 3 ≤ t) (hU : ¬ U t) {e : Ty} {l : List e.den} {cs : List Value} {B : List Nat} {hs : List Nat} {nd : Bool} {n cap : Nat} (el : TypeId)
    (hn : n = l.length) (hl : RepL (Rep w e) l cs B) (hcap : n ≤ cap) (rest : List Value) (hsz : cap * e.sz ≤ cs.length + rest.length)
    (hB : ∀ b ∈ B, 0 < G.col b) (hs1 : ∀ b ∈ B, G.col b ∈ hs) (hs2 : ∀ c ∈ hs, (0 < c ∧ U c ∧ G.bx c = false) ∨ c = t) (hnd : nd = true → B.Nodup)
    {r : Result Next} (hr : r = .ok (.value (.slice (some ⟨w.heap.size, 0, none⟩) n cap)) (w.alloc (.cells (cs ++ rest).toArray el))) :
    Yields w0 c0 (fun u => U u ∨ u = t) E a r (.d ⟨.sl e, l, .sl (.row t hs nd)⟩) := by
  subst hn
  have hlen := RepL.len (sz := e.sz) (fun x c B h => Rep.len h) hl
  refine ⟨_, _, G.add w.heap.size t (.slice (some ⟨w.heap.size, 0, none⟩) l.length cap) false, hr, hI.alloc ht hU _ _ _ _, ⟨[_], rfl, _, rfl, ht, by simp [Gh.add], w.heap.size :: B, ?_, ?_⟩, Ment.d fun c hc => ?_, by rintro _ _ ⟨⟩⟩
  · refine .inr ⟨w.heap.size, 0, cap, _, el, (0, 0), B, rfl, hcap, heap_alloc_new w _, by simp; omega, rfl, ?_⟩
    simp only [List.drop_zero]
    rw [List.take_append_of_le_length (by omega), List.take_of_length_le (by omega)]
    exact RepL.mono (fun b => b < w.heap.size) (fun x c B hlt hx => Rep.mono (fun b hb => heap_alloc_old w _ b (hlt b hb)) hx) (fun b hb => hI.lt b (hB b hb)) hl
  · rintro b Bs ⟨⟩
    have hne : ∀ x ∈ B, x ≠ w.heap.size := fun x hx => Nat.ne_of_lt (hI.lt x (hB x hx))
    refine ⟨by simp [Gh.add], fun h => hne _ h rfl, fun x hx => ?_, hnd⟩
    simp only [Gh.add, if_neg (hne x hx)]
    exact hs1 x hx
  · simp only [Sh.cols, M.cols, List.mem_cons] at hc
    rcases hc with rfl | hc
    · exact ⟨by omega, .inr rfl, by simp [Gh.add]⟩
    · rcases hs2 c hc with h | rfl
      · have hne : c ≠ t := fun e => hU (e ▸ h.2.1)
        exact ⟨h.1, .inl h.2.1, by simp [Gh.add, hne, h.2.2]⟩
      · exact ⟨by omega, .inr rfl, by simp [Gh.add]⟩

end
end Vg

/- VG, part 9: literals; all operations that write nothing. -/
namespace Vg
open Go

theorem foldl_set (vs : List Value) : ∀ (off : Nat) (cs : Array Value) (k : Nat), off + k + vs.length ≤ cs.size →
    ((vs.zipIdx k).foldl (fun cs p => cs.setIfInBounds (off + p.2) p.1) cs).toList = cs.toList.take (off + k) ++ vs ++ cs.toList.drop (off + k + vs.length) := by
  induction vs with
  | nil => intro off cs k h; simp
  | cons v r ih =>
    intro off cs k h
    simp only [List.length_cons] at h
    rw [List.zipIdx_cons, List.foldl_cons, ih off _ (k + 1) (by simp; omega)]
    have ho : off + k < cs.toList.length := by simp; omega
    simp only [Array.toList_setIfInBounds]
    have hd : (cs.toList.set (off + k) v).drop (off + (k + 1) + r.length) = cs.toList.drop (off + k + (r.length + 1)) := by
      rw [List.drop_set_of_lt (by omega)]; congr 1; omega
    have ht : (cs.toList.set (off + k) v).take (off + (k + 1)) = cs.toList.take (off + k) ++ [v] := by
      rw [← Nat.add_assoc, List.take_succ_eq_append_getElem (by simpa using ho), List.take_set_of_le (Nat.le_refl _)]
      simp
    rw [hd, ht]
    simp

theorem arr_foldl_set (v : Array Value) (off : Nat) (cs : Array Value) (h : off + v.size ≤ cs.size) :
    (v.zipIdx.foldl (fun cs (p : Value × Nat) => cs.setIfInBounds (off + p.2) p.1) cs).toList = cs.toList.take off ++ v.toList ++ cs.toList.drop (off + v.size) := by
  rw [← Array.foldl_toList, Array.toList_zipIdx]
  simpa using foldl_set v.toList off cs 0 (by simpa using h)

section
variable {P : Program} {C : Cx} {w0 : World} {c0 : C0} {U : Nat → Prop} {E : Env} {a : Act} {w : World} {G : Gh} {ops : List Oper} {g : Option (Nat × Bool)}

theorem put_sub : ∀ {p : List Bool} {τ : Ty} {x : τ.den} {sh : Sh} {v : TV} {y : τ.den} {s : Sh}, putV τ x sh p v = some (y, s) → τ.sub p = some v.τ
  | [], τ, x, sh, v, y, s, h => by
    have : castV v τ = some y := by cases τ <;> (simp only [putV] at h; split at h <;> simp_all)
    rw [castV_ok this]; cases τ <;> rfl
  | false :: p, .pair a b, x, .pair s1 s2, v, y, s, h => by
    simp only [putV] at h
    split at h
    · rename_i hq; simp only [Ty.sub]; exact put_sub hq
    · cases h
  | true :: p, .pair a b, x, .pair s1 s2, v, y, s, h => by
    simp only [putV] at h
    split at h
    · rename_i hq; simp only [Ty.sub]; exact put_sub hq
    · cases h
  | b :: p, .int _, _, _, _, _, _, h | b :: p, .bool, _, _, _, _, _, h | b :: p, .str, _, _, _, _, _, h | b :: p, .sl _, _, _, _, _, _, h => by simp [putV] at h
  | false :: p, .pair _ _, _, .leaf, _, _, _, h | false :: p, .pair _ _, _, .sl _, _, _, _, h => by simp [putV] at h
  | true :: p, .pair _ _, _, .leaf, _, _, _, h | true :: p, .pair _ _, _, .sl _, _, _, _, h => by simp [putV] at h

theorem build_ok {i : TI} {fields : Array Field} (hI : Inv w0 c0 U E a w G) (hR : RI ops E a.tmps) (hg : Gd ops a.tmps g)
    (hf : ∀ (j : Nat) (f : Field), fields[j]? = some f → FieldOk P i.τ i.fs j f) (hsz : fields.size = i.fs.length) (place : Nat → Option (Nat × Nat))
    (hpl : ∀ (j : Nat) (f : Field) (σ : Ty), fields[j]? = some f → i.τ.sub (fpath i.fs.length j) = some σ → place j = some (f.offset, σ.sz)) :
    ∀ (ps : List (Nat × Operand)) (x : i.τ.den) (sh : Sh) (cells : Array Value) (y : i.τ.den) (s : Sh), VOk w G i.τ x sh cells.toList → (∀ c ∈ sh.cols, 0 < c ∧ U c ∧ G.bx c = false) →
      evBuild C E.rd g i ps x sh = some (y, s) →
      ∃ cells', Instr.fill place cells (ps.map fun p => (p.1, a.eval p.2)) = some cells' ∧ VOk w G i.τ y s cells'.toList ∧ (∀ c ∈ s.cols, 0 < c ∧ U c ∧ G.bx c = false)
  | [], x, sh, cells, y, s, hx, hc, h => by
    simp only [evBuild, Option.some.injEq, Prod.mk.injEq] at h
    obtain ⟨rfl, rfl⟩ := h
    exact ⟨cells, rfl, hx, hc⟩
  | (j, o) :: ps, x, sh, cells, y, s, hx, hc, h => by
    simp only [evBuild] at h
    split at h
    · cases h
    · rename_i ft hft
      split at h
      · cases h
      · rename_i v hv
        split at h
        · rename_i y1 s1 hp
          obtain ⟨⟨cv, he, hvv⟩, hcv, _⟩ := argD_ok hI hR hg hv
          obtain ⟨h1, h2, h3⟩ := VOk.put hp hx hvv
          have hj : j < fields.size := by
            have := (List.getElem?_eq_some_iff.1 hft).1; omega
          obtain ⟨f1, f2, σ, f3, f4⟩ := hf j fields[j] (Array.getElem?_eq_getElem hj)
          have hsub : i.τ.sub (fpath i.fs.length j) = some v.τ := put_sub hp
          have hpj := hpl j fields[j] v.τ (Array.getElem?_eq_getElem hj) hsub
          rw [f1] at hpj
          simp only [List.map_cons, he]
          have key : ∀ cells', VOk w G i.τ y1 s1 cells'.toList → ∃ c2, Instr.fill place cells' (ps.map fun p => (p.1, a.eval p.2)) = some c2 ∧ VOk w G i.τ y s c2.toList ∧ (∀ c ∈ s.cols, 0 < c ∧ U c ∧ G.bx c = false) := by
            intro cells' hc'
            refine build_ok hI hR hg hf hsz place hpl ps y1 s1 cells' y s hc' (fun c hcc => ?_) h
            rcases h3 c hcc with h | h
            · exact hc c h
            · exact hcv c h
          obtain ⟨h1', h2', _⟩ := VOk.put hp hx hvv
          have hl := VOk.len hx
          have hcs := mkv_cells_size (VOk.len hvv) (VOk.one hvv)
          have hct := mkv_cells (VOk.len hvv) (VOk.one hvv)
          have harr := arr_foldl_set (mkv v.τ cv).cells (i.τ.off (fpath i.fs.length j)) cells (by rw [hcs]; simp at hl; omega)
          rw [hct, hcs] at harr
          obtain ⟨c2, k1, k2, k3⟩ := key _ (by rw [harr]; exact h1')
          refine ⟨c2, ?_, k2, k3⟩
          simp only [Instr.fill, hpj]
          rw [if_neg (by simp [hcs]; simp at hl; omega)]
          exact k1
        · cases h

end
end Vg

/- VG, part 10: what is owned; slice literals. -/
namespace Vg
open Go

section
variable {P : Program} {C : Cx} {w0 : World} {c0 : C0} {U : Nat → Prop} {E : Env} {a : Act} {w : World} {G : Gh} {ops : List Oper} {g : Option (Nat × Bool)}

theorem M.own_sub {m : M} {ts : List Nat} (h : m.own = some ts) : ∀ c ∈ ts, c ∈ m.cols := by
  cases m with
  | row t hs nd =>
    simp only [M.own] at h
    split at h
    · simp only [Option.some.injEq] at h; subst h
      intro c hc
      simp only [List.mem_cons, List.mem_filter] at hc
      rcases hc with rfl | hc
      · simp [M.cols]
      · simp [M.cols, hc.1]
    · cases h
  | sha hs =>
    cases hs with
    | nil => simp only [M.own, Option.some.injEq] at h; subst h; simp
    | cons x l => simp [M.own] at h
  | nst b E i o p fr => simp [M.own] at h
  | dead => simp [M.own] at h

theorem M.own_ge {t : Nat} {hs : List Nat} {nd : Bool} {ts : List Nat} (h : (M.row t hs nd).own = some ts) : nd = true ∧ (∀ c ∈ hs, 3 ≤ c) ∧ (∀ c, c ∈ ts ↔ c = t ∨ c ∈ hs) := by
  simp only [M.own] at h
  split at h
  · rename_i hc
    simp only [Bool.and_eq_true, List.all_eq_true, decide_eq_true_eq] at hc
    simp only [Option.some.injEq] at h; subst h
    refine ⟨hc.1, hc.2, fun c => ?_⟩
    simp only [List.mem_cons, List.mem_filter, decide_not, Bool.not_eq_true', decide_eq_false_iff_not]
    by_cases e : c = t <;> simp [e]
  · cases h

theorem RowOk.own {e : Ty} {l : List e.den} {v : Value} {m : M} {ts : List Nat} (h : RowOk w G e l v m) (ho : m.own = some ts) :
    ∃ B, RepS w e.sz (Rep w e) l v B ∧ B.Nodup ∧ ∀ b ∈ B, G.col b ∈ ts := by
  cases m with
  | row t hs nd =>
    obtain ⟨h1, h2, h3⟩ := M.own_ge ho
    obtain ⟨_, _, B, hB, hc⟩ := h
    cases B with
    | nil => exact ⟨[], hB, by simp, by simp⟩
    | cons b Bs =>
      obtain ⟨g1, g2, g3, g4⟩ := hc b Bs rfl
      refine ⟨b :: Bs, hB, List.nodup_cons.2 ⟨g2, g4 h1⟩, fun x hx => ?_⟩
      rcases List.mem_cons.1 hx with rfl | hx
      · exact (h3 _).2 (.inl g1)
      · exact (h3 _).2 (.inr (g3 x hx))
  | sha hs =>
    cases hs with
    | nil =>
      obtain ⟨⟨B, hB, hc⟩, _⟩ := h
      have : B = [] := by cases B with | nil => rfl | cons x l => exact absurd (hc x (by simp)) (by simp)
      subst this
      exact ⟨[], hB, by simp, by simp⟩
    | cons x l => simp [M.own] at ho
  | nst b E i o p fr => simp [M.own] at ho
  | dead => simp [M.own] at ho

theorem M.priv_spec {m : M} {ts : List Nat} (h : m.priv = some ts) : (∃ t hs nd, m = .row t hs nd ∧ (∀ c ∈ hs, 3 ≤ c) ∧ ∀ c, c ∈ ts ↔ c = t ∨ c ∈ hs) ∨ (m = .sha [] ∧ ts = []) := by
  cases m with
  | row t hs nd =>
    simp only [M.priv] at h
    split at h
    · rename_i hc
      simp only [List.all_eq_true, decide_eq_true_eq] at hc
      simp only [Option.some.injEq] at h; subst h
      refine .inl ⟨t, hs, nd, rfl, hc, fun c => ?_⟩
      simp only [List.mem_cons, List.mem_filter, decide_not, Bool.not_eq_true', decide_eq_false_iff_not]
      by_cases e : c = t <;> simp [e]
    · cases h
  | sha hs =>
    cases hs with
    | nil => simp only [M.priv, Option.some.injEq] at h; subst h; exact .inr ⟨rfl, rfl⟩
    | cons x l => simp [M.priv] at h
  | nst b E i o p fr => simp [M.priv] at h
  | dead => simp [M.priv] at h

/-- What has no memory but the nil slice. -/
theorem RowOk.nil {e : Ty} {l : List e.den} {v : Value} (h : RowOk w G e l v (.sha [])) : v = .slice none 0 0 ∧ ∃ B, RepS w e.sz (Rep w e) l v B ∧ B = [] := by
  obtain ⟨⟨B, hB, hc⟩, hn⟩ := h
  exact ⟨hn rfl, B, hB, by cases B with | nil => rfl | cons x l => exact absurd (hc x (by simp)) (by simp)⟩

theorem Sh.own_sub : ∀ {sh : Sh} {ts : List Nat}, sh.own = some ts → ∀ c ∈ ts, c ∈ sh.cols
  | .leaf, ts, h, c, hc => by simp only [Sh.own, Option.some.injEq] at h; subst h; simp at hc
  | .sl m, ts, h, c, hc => M.own_sub h c hc
  | .pair a b, ts, h, c, hc => by
    simp only [Sh.own] at h
    split at h
    · rename_i x y hx hy
      split at h
      · simp only [Option.some.injEq] at h; subst h
        rcases List.mem_append.1 hc with hc | hc
        · simp [Sh.cols, Sh.own_sub hx c hc]
        · simp [Sh.cols, Sh.own_sub hy c hc]
      · cases h
    · cases h

theorem VOk.own : ∀ {τ : Ty} {x : τ.den} {sh : Sh} {cs : List Value} {ts : List Nat}, VOk w G τ x sh cs → sh.own = some ts → ∃ B, Rep w τ x cs B ∧ B.Nodup ∧ ∀ b ∈ B, G.col b ∈ ts
  | .int _, _, .leaf, _, _, h, _ => ⟨[], ⟨h, rfl⟩, by simp, by simp⟩
  | .bool, _, .leaf, _, _, h, _ => ⟨[], ⟨h, rfl⟩, by simp, by simp⟩
  | .str, _, .leaf, _, _, h, _ => ⟨[], ⟨h, rfl⟩, by simp, by simp⟩
  | .sl e, l, .sl m, cs, ts, h, ho => by
    obtain ⟨v, rfl, hr⟩ := h
    obtain ⟨B, hB, hn, hc⟩ := hr.own ho
    exact ⟨B, ⟨v, rfl, hB⟩, hn, hc⟩
  | .pair a b, p, .pair s1 s2, cs, ts, h, ho => by
    obtain ⟨c1, c2, rfl, h1, h2⟩ := h
    simp only [Sh.own] at ho
    split at ho
    · rename_i x y hx hy
      split at ho
      · rename_i hd
        simp only [Option.some.injEq] at ho; subst ho
        obtain ⟨B1, r1, n1, k1⟩ := VOk.own h1 hx
        obtain ⟨B2, r2, n2, k2⟩ := VOk.own h2 hy
        refine ⟨B1 ++ B2, ⟨c1, c2, B1, B2, rfl, rfl, r1, r2⟩, List.nodup_append.2 ⟨n1, n2, ?_⟩, fun b hb => ?_⟩
        · intro b hb b' hb' e
          subst e
          simp only [List.all_eq_true, Bool.not_eq_true', List.contains_eq_mem, decide_eq_false_iff_not] at hd
          exact hd _ (k1 b hb) (k2 b hb')
        · rcases List.mem_append.1 hb with hb | hb
          · exact List.mem_append_left _ (k1 b hb)
          · exact List.mem_append_right _ (k2 b hb)
      · cases ho
    · cases ho
  | .int _, _, .sl _, _, _, h, _ | .int _, _, .pair _ _, _, _, h, _ | .bool, _, .sl _, _, _, h, _ | .bool, _, .pair _ _, _, _, h, _
  | .str, _, .sl _, _, _, h, _ | .str, _, .pair _ _, _, _, h, _ | .sl _, _, .leaf, _, _, h, _ | .sl _, _, .pair _ _, _, _, h, _
  | .pair _ _, _, .leaf, _, _, h, _ | .pair _ _, _, .sl _, _, _, h, _ => h.elim

/-- Elements with a shape each. -/
def VOkL (w : World) (G : Gh) (e : Ty) : List e.den → List Sh → List (List Value) → Prop
  | [], [], [] => True
  | x :: l, s :: ss, c :: cs => VOk w G e x s c ∧ VOkL w G e l ss cs
  | _, _, _ => False

theorem VOkL.rep : ∀ {e : Ty} {l : List e.den} {ss : List Sh} {cs : List (List Value)}, VOkL w G e l ss cs → (∀ s ∈ ss, s.live = true) →
    ∃ B, RepL (Rep w e) l cs.flatten B ∧ ∀ b ∈ B, G.col b ∈ ss.flatMap Sh.cols
  | e, [], [], [], _, _ => ⟨[], ⟨rfl, rfl⟩, by simp⟩
  | e, x :: l, s :: ss, c :: cs, h, hl => by
    obtain ⟨B1, r1, k1⟩ := h.1.rep (hl s (by simp))
    obtain ⟨B2, r2, k2⟩ := VOkL.rep h.2 (fun s hs => hl s (by simp [hs]))
    refine ⟨B1 ++ B2, ⟨c, _, B1, B2, by simp, rfl, r1, r2⟩, fun b hb => ?_⟩
    rw [List.flatMap_cons]
    rcases List.mem_append.1 hb with hb | hb
    · exact List.mem_append_left _ (k1 b hb)
    · exact List.mem_append_right _ (k2 b hb)
  | e, [], _ :: _, _, h, _ | e, [], [], _ :: _, h, _ | e, _ :: _, [], _, h, _ | e, _ :: _, _ :: _, [], h, _ => h.elim

theorem VOkL.own : ∀ {e : Ty} {l : List e.den} {ss : List Sh} {cs : List (List Value)} {ts : List Nat}, VOkL w G e l ss cs → allOwn ss = some ts →
    ∃ B, RepL (Rep w e) l cs.flatten B ∧ B.Nodup ∧ ∀ b ∈ B, G.col b ∈ ts
  | e, [], [], [], ts, _, _ => ⟨[], ⟨rfl, rfl⟩, by simp, by simp⟩
  | e, x :: l, s :: ss, c :: cs, ts, h, ho => by
    simp only [allOwn] at ho
    split at ho
    · rename_i t1 t2 h1 h2
      split at ho
      · rename_i hd
        simp only [Option.some.injEq] at ho; subst ho
        obtain ⟨B1, r1, n1, k1⟩ := h.1.own h1
        obtain ⟨B2, r2, n2, k2⟩ := VOkL.own h.2 h2
        refine ⟨B1 ++ B2, ⟨c, _, B1, B2, by simp, rfl, r1, r2⟩, List.nodup_append.2 ⟨n1, n2, ?_⟩, fun b hb => ?_⟩
        · intro b hb b' hb' e
          subst e
          simp only [List.all_eq_true, Bool.not_eq_true', List.contains_eq_mem, decide_eq_false_iff_not] at hd
          exact hd _ (k1 b hb) (k2 b hb')
        · rcases List.mem_append.1 hb with hb | hb
          · exact List.mem_append_left _ (k1 b hb)
          · exact List.mem_append_right _ (k2 b hb)
      · cases ho
    · cases ho
  | e, [], _ :: _, _, _, h, _ | e, [], [], _ :: _, _, h, _ | e, _ :: _, [], _, _, h, _ | e, _ :: _, _ :: _, [], _, h, _ => h.elim

theorem allOwn_sub : ∀ {ss : List Sh} {ts : List Nat}, allOwn ss = some ts → ∀ c ∈ ts, c ∈ ss.flatMap Sh.cols
  | [], ts, h, c, hc => by simp only [allOwn, Option.some.injEq] at h; subst h; simp at hc
  | s :: ss, ts, h, c, hc => by
    simp only [allOwn] at h
    split at h
    · rename_i t1 t2 h1 h2
      split at h
      · simp only [Option.some.injEq] at h; subst h
        rw [List.flatMap_cons]
        rcases List.mem_append.1 hc with hc | hc
        · exact List.mem_append_left _ (Sh.own_sub h1 c hc)
        · exact List.mem_append_right _ (allOwn_sub h2 c hc)
      · cases h
    · cases h

theorem list_ok (hI : Inv w0 c0 U E a w G) (hR : RI ops E a.tmps) (hg : Gd ops a.tmps g) {el : TypeId} {e : Ty} :
    ∀ (ps : List (Nat × Operand)) (n : Nat) (xs : List e.den) (ss : List Sh) (cells : Array Value), evList C E.rd g el e n ps = some (xs, ss) → (n + ps.length) * e.sz ≤ cells.size →
      ∃ cvs cells', Instr.fill (fun i => some (i * e.sz, e.sz)) cells (ps.map fun p => (p.1, a.eval p.2)) = some cells' ∧
        cells'.toList = cells.toList.take (n * e.sz) ++ cvs.flatten ++ cells.toList.drop ((n + ps.length) * e.sz) ∧ VOkL w G e xs ss cvs ∧ xs.length = ps.length ∧ (∀ s ∈ ss, s.live = true ∧ ∀ c ∈ s.cols, 0 < c ∧ U c ∧ G.bx c = false)
  | [], n, xs, ss, cells, h, hs => by
    simp only [evList, Option.some.injEq, Prod.mk.injEq] at h
    obtain ⟨rfl, rfl⟩ := h
    exact ⟨[], cells, rfl, by simp, trivial, rfl, by simp⟩
  | (j, o) :: ps, n, xs, ss, cells, h, hs => by
    simp only [evList] at h
    split at h
    · rename_i ej
      subst ej
      split at h
      · cases h
      · rename_i v hv
        split at h
        · rename_i x xs' ss' hx hl
          simp only [Option.some.injEq, Prod.mk.injEq] at h
          obtain ⟨rfl, rfl⟩ := h
          obtain ⟨⟨cv, he, hvv⟩, hcv, hlive⟩ := argD_ok hI hR hg hv
          have ev := castV_ok hx
          have hτ : v.τ = e := by rw [ev]
          have hvx : VOk w G e x v.sh cv := by rw [ev] at hvv; exact hvv
          have hlen := VOk.len hvx
          have hcs := mkv_cells_size (τ := v.τ) (by rw [hτ]; exact hlen) (VOk.one hvx)
          have hct := mkv_cells (τ := v.τ) (by rw [hτ]; exact hlen) (VOk.one hvx)
          rw [hτ] at hcs hct
          simp only [List.length_cons] at hs
          have hmul : (j + 1) * e.sz ≤ (j + (ps.length + 1)) * e.sz := Nat.mul_le_mul_right _ (by omega)
          rw [Nat.add_mul, Nat.one_mul] at hmul
          have harr := arr_foldl_set (mkv e cv).cells (j * e.sz) cells (by rw [hcs]; omega)
          rw [hct, hcs] at harr
          have hsz : (Array.foldl (fun cs (q : Value × Nat) => cs.setIfInBounds (j * e.sz + q.2) q.1) cells (mkv e cv).cells.zipIdx).size = cells.size := by
            have := congrArg List.length harr
            simp only [Array.length_toList, List.length_append, List.length_take, List.length_drop, hlen] at this; omega
          obtain ⟨cvs, cells', k1, k2, k3, k4, k5⟩ := list_ok hI hR hg ps (j + 1) xs' ss' _ hl (by rw [hsz]; rw [show j + 1 + ps.length = j + (ps.length + 1) by omega]; exact hs)
          refine ⟨cv :: cvs, cells', ?_, ?_, ⟨hvx, k3⟩, by simp [k4], ?_⟩
          · simp only [List.map_cons, he, hτ, Instr.fill]
            rw [if_neg (by simp [hcs]; omega)]
            exact k1
          · rw [k2, harr]
            have h1 : (cells.toList.take (j * e.sz) ++ cv ++ cells.toList.drop (j * e.sz + e.sz)).take ((j + 1) * e.sz) = cells.toList.take (j * e.sz) ++ cv := by
              rw [List.take_append_of_le_length (by simp [hlen, Nat.add_mul]; omega), List.take_of_length_le (by simp [hlen, Nat.add_mul]; omega)]
            have h2 : (cells.toList.take (j * e.sz) ++ cv ++ cells.toList.drop (j * e.sz + e.sz)).drop ((j + 1 + ps.length) * e.sz) = cells.toList.drop ((j + (ps.length + 1)) * e.sz) := by
              have e1 : (j + 1 + ps.length) * e.sz = (cells.toList.take (j * e.sz) ++ cv).length + ps.length * e.sz := by
                simp [hlen, Nat.add_mul]; omega
              rw [e1, List.drop_append, List.drop_of_length_le (by omega), List.nil_append, Nat.add_sub_cancel_left, List.drop_drop]
              congr 1
              simp [Nat.add_mul]; omega
            rw [h1, h2]
            simp
          · intro s hs'
            rcases List.mem_cons.1 hs' with rfl | hs'
            · exact ⟨hlive, hcv⟩
            · exact k5 s hs'
        · cases h
    · cases h

end
end Vg

/- VG, part 11: all operations that write nothing, together. -/
namespace Vg
open Go

section
variable {P : Program} {C : Cx} {w0 : World} {c0 : C0} {U : Nat → Prop} {E : Env} {a : Act} {w : World} {G : Gh} {ops : List Oper} {g : Option (Nat × Bool)}

theorem Ment.mono {U U' : Nat → Prop} {v : SV} (h : Ment U G v) (hU : ∀ u, U u → U' u) : Ment U' G v :=
  ⟨fun c hc => ⟨(h.1 c hc).1, hU _ (h.1 c hc).2.1, (h.1 c hc).2.2⟩, fun c hc => ⟨(h.2.1 c hc).1, hU _ (h.2.1 c hc).2.1, (h.2.1 c hc).2.2⟩,
    fun c hc => ⟨(h.2.2 c hc).1, hU _ (h.2.2 c hc).2.1, (h.2.2 c hc).2.2⟩⟩

theorem Yields.mono {U U' : Nat → Prop} {r : Result Next} {sv : SV} (h : Yields w0 c0 U E a r sv) (hU : ∀ u, U u → U' u) : Yields w0 c0 U' E a r sv := by
  obtain ⟨mv, w', G', h1, h2, h3, h4, h5⟩ := h
  exact ⟨mv, w', G', h1, h2.mono hU, h3, h4.mono hU, h5⟩

theorem EfY.mono {U U' : Nat → Prop} {r : Result Next} {ef : Ef} (h : EfY w0 c0 U E a r ef) (hU : ∀ u, U u → U' u) : EfY w0 c0 U' E a r ef := by
  cases ef with
  | val v => exact Yields.mono h hU
  | chk c v => exact fun hc => Yields.mono (h hc) hU
  | _ => exact h

theorem run_v {s : Sem Value} {x : Value} {w' : World} (h : s.run P w = .ok x w') : ((do pure (.value (← s))) : Sem Next).run P w = .ok (.value x) w' := by
  simp [h]

theorem toNat_lt {i : Int} {n : Nat} (h0 : 0 ≤ i) (h : i < (n : Int)) : i.toNat < n := by omega

theorem load_ok (hC : CxTy P C) (hI : Inv w0 c0 U E a w G) (hR : RI ops E a.tmps) (hg : Gd ops a.tmps g) {tk : Nat} {o : Oper} {t : TypeId} {x : Operand} {ef : Ef} (ho : o.op = .load t x)
    (h : evOp0 C ops E.rd tk g o = some ef) : EfY w0 c0 U E a ((execOp a.eval o).run P w) ef := by
  simp only [evOp0, ho] at h
  split at h
  · cases h
  rename_i ti hti
  have hT := (hC.tt t ti hti).1
  have hrun : ∀ {b o' : Nat} {c : Array Value} {el : TypeId} {fz : Nat × Nat}, a.eval x = .pointer (some ⟨b, o', none⟩) → w.heap[b]? = some (.cells c el fz) → o' + ti.τ.sz ≤ c.size →
      (execOp a.eval o).run P w = .ok (.value (mkv ti.τ ((c.toList.drop o').take ti.τ.sz))) w := by
    intro b o' c el fz he hb hs
    simp only [execOp, ho]
    refine run_v ?_
    simp only [Instr.loadAt, he, Instr.sureAddr]
    simpa using run_loadVar' hT hb hs
  split at h
  · -- a box
    rename_i b off p τ harg
    obtain ⟨h1, h2⟩ := arg_ok hI hR hg harg
    obtain ⟨bk, _, k2, k3⟩ := h1
    split at h
    · rename_i sl v hbox
      obtain ⟨_, bk', c, el, g1, _, _, g4, g5, g6⟩ := hI.box hbox
      rw [g1] at k2
      simp only [Value.pointer.injEq, Option.some.injEq, Addr.mk.injEq, and_true] at k2
      subst k2
      split at h
      · rename_i r hr
        split at h
        · rename_i hc
          simp only [Bool.and_eq_true, decide_eq_true_eq] at hc
          cases h
          obtain ⟨q1, q2, q3, q4⟩ := VOk.sub hr g5
          have hlen := VOk.len g5
          rw [hc.1] at q1 q2
          have hb := hrun k3 g4 (by rw [← hc.2]; simp at hlen; omega)
          rw [← hc.2] at hb
          exact yields_same hI hb ⟨_, rfl, q1⟩ (Ment.d fun c hc => g6 c (q4 c hc)) (by rintro _ _ ⟨⟩)
        · cases h
      · cases h
    · cases h
  · -- an element
    rename_i b e i off p τ harg
    obtain ⟨h1, _⟩ := arg_ok hI hR hg harg
    obtain ⟨bk, of, n, cap, _, k2, k3, k4, k5⟩ := h1
    split at h
    · rename_i l hs nd hrow
      obtain ⟨⟨v, hv⟩, hm⟩ := hI.findRow hrow
      split at h
      · rename_i hc
        simp only [Bool.and_eq_true, decide_eq_true_eq] at hc
        rw [Option.map_eq_some_iff] at h
        obtain ⟨r, hr, rfl⟩ := h
        have hh := hv.2.1
        rw [k2] at hh
        have hlen : n = l.length := by
          obtain ⟨_, _, B, hB, _⟩ := hv
          rcases hB with ⟨⟨ao, e0⟩, hl0, _⟩ | ⟨_, _, _, _, _, _, _, hx, _⟩
          · rw [e0] at hh; cases hh; rw [hl0]; rfl
          · rw [← hh] at hx; cases hx; rfl
        have hi : i.toNat < l.length := by omega
        obtain ⟨b', off', cap', c, el, fz, B, e1, e2, e3, e4, e5, e6, e7⟩ := hv.elem hi
        rw [← hh] at e1
        cases e1
        have hvk : VOk w G e (l.getD i.toNat e.dflt) (shOf e (.sha (2 :: hs))) _ := VOk.of_rep e6 (fun b hb => List.mem_cons_of_mem _ (e7 b hb)) (by simp)
        obtain ⟨q1, q2, q3, q4⟩ := VOk.sub hr hvk
        have hrτ : r.τ = ti.τ := by have := q3.symm.trans hc.2; simpa using this
        have hmul : (i.toNat + 1) * e.sz ≤ cap * e.sz := Nat.mul_le_mul_right _ (by omega)
        rw [Nat.add_mul, Nat.one_mul] at hmul
        have hb := hrun k5 e2 (by rw [← hrτ]; rw [hc.1] at q2; omega)
        refine yields_same hI hb ⟨(c.toList.drop (of + i.toNat * e.sz + off)).take ti.τ.sz, by rw [hrτ], ?_⟩ (Ment.d fun c hcc => ?_) (by rintro _ _ ⟨⟩)
        · rw [hc.1] at q1 q2
          rw [List.drop_take, List.take_take, List.drop_drop, Nat.min_eq_left (by omega)] at q1
          rw [← hrτ]; exact q1
        · have := shOf_cols _ _ c (q4 c hcc)
          simp only [M.cols, List.mem_cons] at this
          rcases this with rfl | this
          · exact ⟨by omega, hI.two⟩
          · exact hm c (List.mem_cons_of_mem _ this)
      · cases h
    · cases h
  · -- shared memory
    rename_i hs v harg
    obtain ⟨h1, h2⟩ := arg_ok hI hR hg harg
    obtain ⟨b, o', c, el, fz, k1, k2, k3, k4, k5⟩ := h1
    split at h
    · rename_i hτ
      cases h
      have hb := hrun k1 k2 (by rw [← hτ]; exact k3)
      rw [← hτ] at hb
      exact yields_same hI hb ⟨_, rfl, k5⟩ (Ment.d fun c hc => h2.1 c (by simp [SV.sc, hc])) (by rintro _ _ ⟨⟩)
    · cases h
  · cases h

theorem fieldAddr_ok (hC : CxTy P C) (hI : Inv w0 c0 U E a w G) (hR : RI ops E a.tmps) (hg : Gd ops a.tmps g) {tk : Nat} {o : Oper} {s : TypeId} {x : Operand} {j : Nat} {ef : Ef} (ho : o.op = .fieldAddr s x j)
    (h : evOp0 C ops E.rd tk g o = some ef) : EfY w0 c0 U E a ((execOp a.eval o).run P w) ef := by
  simp only [evOp0, ho] at h
  split at h
  · cases h
  rename_i i hi
  have hT := hC.tt s i hi
  split at h
  rotate_left
  · cases h
  rename_i hj
  have hpair : ∀ σ, i.τ.sub (fpath i.fs.length j) = some σ → i.τ.isPair = true ∨ (fpath i.fs.length j) = [] := by
    intro σ hσ
    cases hf : fpath i.fs.length j with
    | nil => exact .inr rfl
    | cons b p => rw [hf] at hσ; exact .inl (sub_pair hσ)
  have hstruct : i.τ.isPair = true := by
    cases hτ : i.τ with
    | pair a b => rfl
    | _ =>
      exfalso
      have := hT.2
      rw [hτ] at this
      have hfs := hC.fs s i hi (by rw [hτ]; rfl)
      rw [hfs] at hj; simp at hj
  have hrun : ∀ {b o' : Nat}, a.eval x = .pointer (some ⟨b, o', none⟩) → (execOp a.eval o).run P w = .ok (.value (.pointer (some ⟨b, o' + i.τ.off (fpath i.fs.length j), none⟩))) w := by
    intro b o' he
    simp only [execOp, ho]
    refine run_v ?_
    rw [he]
    rcases run_fieldAt (w := w) hT hj b o' with h | h
    · exact h
    · rw [hstruct] at h; cases h
  split at h
  · rename_i σ t o' p τ hσ harg
    split at h
    · cases h
      obtain ⟨⟨bk, k1, k2, k3⟩, h2⟩ := arg_ok hI hR hg harg
      exact yields_same hI (hrun k3) ⟨bk, k1, k2, rfl⟩ ⟨by simp [SV.sc], by simpa [SV.bt] using h2.2.1, by simp [SV.rt]⟩ (by rintro _ _ ⟨⟩)
    · cases h
  · rename_i σ t e n o' p τ hσ harg
    split at h
    · cases h
      obtain ⟨⟨b, off, m, cap, k1, k2, k3, k4, k5⟩, h2⟩ := arg_ok hI hR hg harg
      exact yields_same hI (hrun k5) ⟨b, off, m, cap, k1, k2, k3, k4, by rw [Nat.add_assoc]⟩ ⟨by simp [SV.sc], by simp [SV.bt], by simpa [SV.rt] using h2.2.2⟩ (by rintro _ _ ⟨⟩)
    · cases h
  · rename_i σ hs v hσ harg
    split at h
    · rename_i hτ
      rw [Option.map_eq_some_iff] at h
      obtain ⟨r, hr, rfl⟩ := h
      obtain ⟨h1, h2⟩ := arg_ok hI hR hg harg
      obtain ⟨b, o', he, hs'⟩ := rdp_sub h1 hr
      rw [hτ] at hs'
      refine yields_same hI (hrun he) hs' ⟨?_, by simp [SV.bt], by simp [SV.rt]⟩ (by rintro _ _ ⟨⟩)
      intro c hc
      obtain ⟨_, _, _, _, _, _, _, _, _, k5⟩ := h1
      have := (VOk.sub hr k5).2.2.2
      simp only [SV.sc, List.mem_append] at hc
      rcases hc with hc | hc
      · exact h2.1 c (by simp [SV.sc, hc])
      · exact h2.1 c (by simp [SV.sc, this c hc])
    · cases h
  · cases h

theorem indexAddr_ok (hC : CxTy P C) (hI : Inv w0 c0 U E a w G) (hR : RI ops E a.tmps) (hg : Gd ops a.tmps g) {tk : Nat} {o : Oper} {t : TypeId} {x n : Operand} {ef : Ef} (ho : o.op = .indexAddr t x n)
    (h : evOp0 C ops E.rd tk g o = some ef) : EfY w0 c0 U E a ((execOp a.eval o).run P w) ef := by
  simp only [evOp0, ho] at h
  split at h
  · rename_i ti e l u hs nd k i sh hti hx hn
    split at h
    · rename_i hτ
      cases h
      intro hc
      obtain ⟨hi0, hil⟩ := of_decide_eq_true hc
      have hT := (hC.tt t ti hti).2
      rw [hτ] at hT
      obtain ⟨m, hm, hrow, _, hmc⟩ := eval_sl hI hR hg hx
      simp only [Sh.sl.injEq] at hm; subst hm
      have hin := eval_int hI hR hg hn
      have hi : i.toNat < l.length := toNat_lt hi0 hil
      obtain ⟨b, off, cap, c, el, fz, B, e1, e2, e3, e4, e5, e6, e7⟩ := hrow.elem hi
      have hrun : (execOp a.eval o).run P w = .ok (.value (.pointer (some ⟨b, off + i.toNat * e.sz, none⟩))) w := by
        simp only [execOp, ho]
        refine run_v ?_
        rw [e1, hin]
        simp [Instr.indexAt, asIntOf, run_underlying hT.1, run_sizeOf' hT.2, hi0, hil, Addr.add_lit]
      refine yields_same hI hrun ⟨b, off, l.length, cap, hrow.1, hrow.2.1.trans e1, hi0, hil, rfl⟩ ⟨by simp [SV.sc], by simp [SV.bt], ?_⟩ (by rintro _ _ ⟨⟩)
      intro c hc
      simp only [SV.rt, List.mem_singleton] at hc
      subst hc
      exact hmc _ (by simp [M.cols])
    · cases h
  · rename_i ti e l hs k i sh hti hx hn
    split at h
    · rename_i hτ
      cases h
      intro hc
      obtain ⟨hi0, hil⟩ := of_decide_eq_true hc
      have hT := (hC.tt t ti hti).2
      rw [hτ] at hT
      obtain ⟨m, hm, hrow, _, hmc⟩ := eval_sl hI hR hg hx
      simp only [Sh.sl.injEq] at hm; subst hm
      have hin := eval_int hI hR hg hn
      have hi : i.toNat < l.length := toNat_lt hi0 hil
      obtain ⟨⟨BB, hBB, hBc⟩, _⟩ := hrow
      obtain ⟨b, off, cap, c, el, fz, B, e1, e2, e3, e4, e5, e6, e7⟩ := hBB.elem hi
      have hrun : (execOp a.eval o).run P w = .ok (.value (.pointer (some ⟨b, off + i.toNat * e.sz, none⟩))) w := by
        simp only [execOp, ho]
        refine run_v ?_
        rw [e1, hin]
        simp [Instr.indexAt, asIntOf, run_underlying hT.1, run_sizeOf' hT.2, hi0, hil, Addr.add_lit]
      have hmul : (i.toNat + 1) * e.sz ≤ cap * e.sz := Nat.mul_le_mul_right _ (by omega)
      rw [Nat.add_mul, Nat.one_mul] at hmul
      refine yields_same hI hrun ⟨b, off + i.toNat * e.sz, c, el, fz, rfl, e2, by simp only; omega, hBc b e5, VOk.of_rep e6 (fun x hx => List.mem_cons_of_mem _ (hBc x (e7 x hx))) (by simp)⟩ ⟨?_, by simp [SV.bt], by simp [SV.rt]⟩ (by rintro _ _ ⟨⟩)
      intro c hc
      simp only [SV.sc, List.mem_append] at hc
      rcases hc with hc | hc
      · exact hmc c hc
      · have := shOf_cols _ _ c hc
        simp only [M.cols, List.mem_cons] at this
        rcases this with rfl | this
        · exact ⟨by omega, hI.two⟩
        · exact hmc c this
    · cases h
  · cases h

end
end Vg

/- VG, part 12: new memory, cuts, and the rest of what writes nothing. -/
namespace Vg
open Go

section
variable {P : Program} {C : Cx} {w0 : World} {c0 : C0} {U : Nat → Prop} {E : Env} {a : Act} {w : World} {G : Gh} {ops : List Oper} {g : Option (Nat × Bool)}

theorem zero_ok (w : World) (G : Gh) (τ : Ty) : VOk w G τ τ.dflt (shOf τ (.sha [])) τ.zero := VOk.zero τ

theorem no_cols {τ : Ty} (Q : Nat → Prop) : ∀ c ∈ (shOf τ (.sha [])).cols, Q c := fun c hc => by
  have := shOf_cols _ _ c hc
  simp [M.cols] at this

theorem alloc_ok (hC : CxTy P C) (hI : Inv w0 c0 U E a w G) {tk : Nat} (h3 : 3 ≤ tk) (hU : ¬ U tk) {o : Oper} {t : TypeId} {ef : Ef} (ho : o.op = .alloc t)
    (h : evOp0 C ops E.rd tk g o = some ef) : EfY w0 c0 (fun u => U u ∨ u = tk) E a ((execOp a.eval o).run P w) ef := by
  simp only [evOp0, ho, Option.map_eq_some_iff] at h
  obtain ⟨i, hi, rfl⟩ := h
  have hT := (hC.tt t i hi).1
  refine newVar_ok hI h3 hU (zero_ok w G i.τ) (no_cols _) t ?_
  simp only [execOp, ho]
  refine run_v ?_
  have hc := mkv_cells (τ := i.τ) i.τ.zero_len (zero_one i.τ)
  have hc' : (mkv i.τ i.τ.zero).cells = i.τ.zero.toArray := Array.ext' (by simpa using hc)
  simp [Instr.alloc, run_zeroValue hT, newVar, newRow, hc']

theorem box_ok (hI : Inv w0 c0 U E a w G) (hR : RI ops E a.tmps) (hg : Gd ops a.tmps g) {tk : Nat} (h3 : 3 ≤ tk) (hU : ¬ U tk) {o : Oper} {t : TypeId} {x : Operand} {ef : Ef} (ho : o.op = .box t x)
    (h : evOp0 C ops E.rd tk g o = some ef) : EfY w0 c0 (fun u => U u ∨ u = tk) E a ((execOp a.eval o).run P w) ef := by
  simp only [evOp0, ho] at h
  split at h
  · rename_i i v hi hv
    split at h
    · cases h
      obtain ⟨⟨cs, he, hvv⟩, hc, _⟩ := argD_ok hI hR hg hv
      refine newVar_ok hI h3 hU hvv hc t ?_
      simp only [execOp, ho]
      refine run_v ?_
      have hct := mkv_cells (VOk.len hvv) (VOk.one hvv)
      have hc' : (mkv v.τ cs).cells = cs.toArray := Array.ext' (by simpa using hct)
      simp [Instr.box, he, newVar, newRow, hc']
    · cases h
  · cases h

theorem TyOk.struct {t : TypeId} {i : TI} (h : TyOk P t i) (hp : i.τ.isPair = true) : ∃ fields, P.underlying t = some (.struct fields) ∧ fields.size = i.fs.length ∧
    ∀ (j : Nat) (f : Field), fields[j]? = some f → FieldOk P i.τ i.fs j f := by
  obtain ⟨τ, fs, el⟩ := i
  cases τ with
  | pair x y => exact h.2
  | _ => cases hp

theorem mkv_pair {τ : Ty} (hp : τ.isPair = true) (cs : List Value) : mkv τ cs = .agg cs.toArray := by
  cases τ <;> first | rfl | cases hp

theorem bld_ok (hC : CxTy P C) (hI : Inv w0 c0 U E a w G) (hR : RI ops E a.tmps) (hg : Gd ops a.tmps g) {tk : Nat} {o : Oper} {t : TypeId} {ps : Array (Nat × Operand)} {ef : Ef} (ho : o.op = .build t ps)
    (h : evOp0 C ops E.rd tk g o = some ef) : EfY w0 c0 U E a ((execOp a.eval o).run P w) ef := by
  simp only [evOp0, ho] at h
  split at h
  · rename_i i hi
    split at h
    · cases h
    · rename_i hne
      rw [Option.map_eq_some_iff] at h
      obtain ⟨r, hr, rfl⟩ := h
      have hTy := hC.tt t i hi
      have hF := hTy.1
      have hstruct : i.τ.isPair = true := by
        cases hp : i.τ.isPair with
        | true => rfl
        | false => rw [hC.fs t i hi hp] at hne; simp at hne
      obtain ⟨fields, hu, hsz, hf⟩ := hTy.struct hstruct
      have hz : VOk w G i.τ i.τ.dflt (shOf i.τ (.sha [])) i.τ.zero.toArray.toList := by simpa using zero_ok w G i.τ
      obtain ⟨inf, d, hinf, hisz, hizero, _⟩ := hF
      have hplaces : ∃ places, fields.toList.mapM (fun f => (P.info? f.type).map fun i => (f.offset, i.size)) = some places ∧
          ∀ (j : Nat) (f : Field) (σ : Ty), fields[j]? = some f → i.τ.sub (fpath i.fs.length j) = some σ → places.toArray[j]? = some (f.offset, σ.sz) := by
        have hall : ∀ f ∈ fields.toList, ∃ inf, P.info? f.type = some inf := by
          intro f hf'
          obtain ⟨j, hj, rfl⟩ := List.mem_iff_getElem.1 hf'
          obtain ⟨_, _, σ, _, inf, d, h1, _⟩ := hf j fields[j] (Array.getElem?_eq_getElem (by simpa using hj))
          exact ⟨inf, by simpa using h1⟩
        refine ⟨fields.toList.map fun f => (f.offset, ((P.info? f.type).map (·.size)).getD 0), ?_, ?_⟩
        · generalize fields.toList = L at hall
          induction L with
          | nil => rfl
          | cons f L ih =>
            obtain ⟨inf, hinf⟩ := hall f (by simp)
            simp [List.mapM_cons, hinf, ih (fun f hf => hall f (by simp [hf]))]
        · intro j f σ hj hσ
          obtain ⟨_, _, σ', g1, inf, d, g2, g3, _⟩ := hf j f hj
          rw [g1] at hσ; cases hσ
          simp [hj, g2, g3]
      obtain ⟨places, hp1, hp2⟩ := hplaces
      obtain ⟨cells', k1, k2, k3⟩ := build_ok (fields := fields) hI hR hg hf hsz (fun x => places.toArray[x]?) hp2 ps.toList _ _ i.τ.zero.toArray r.1 r.2 hz (no_cols _) hr
      have hct := mkv_cells (τ := i.τ) i.τ.zero_len (zero_one i.τ)
      have hc' : (mkv i.τ i.τ.zero).cells = i.τ.zero.toArray := Array.ext' (by simpa using hct)
      have hb : P.built t (ps.map fun p => (p.1, a.eval p.2)).toList = some cells' := by
        unfold Program.built
        simp only [hinf, hu, hizero, hp1, hc', Array.toList_map]
        exact k1
      refine yields_same hI (mv := .agg cells') ?_ ⟨cells'.toList, ?_, k2⟩ (Ment.d k3) (by rintro _ _ ⟨⟩)
      · simp only [execOp, ho]
        exact run_v (run_build w t _ cells' hb)
      · show Value.agg cells' = mkv i.τ cells'.toList
        rw [mkv_pair hstruct]
  · cases h

theorem made_rep {e : Ty} (n : Nat) (z : Array Value) (hz : z.toList = e.zero) : (madeCells z (n * e.sz)).toList = (List.replicate n e.zero).flatten := by
  have hs : z.size = e.sz := by rw [← Array.length_toList, hz, e.zero_len]
  have hpos := e.sz_pos
  apply List.ext_getElem?
  intro j
  induction n generalizing j with
  | zero => simp [madeCells]
  | succ n ih =>
    rw [List.replicate_succ, List.flatten_cons]
    by_cases hj : j < e.sz
    · have h1 : j < (n + 1) * e.sz := by rw [Nat.add_mul]; omega
      rw [List.getElem?_append_left (by rw [e.zero_len]; exact hj), ← hz]
      simp only [madeCells, Array.toList_map, Array.toList_range, List.getElem?_map, List.getElem?_range h1, Option.map_some, hs, Nat.mod_eq_of_lt hj]
      simp [show j < z.size by omega]
    · have ih' := ih (j - e.sz)
      rw [List.getElem?_append_right (by rw [e.zero_len]; omega), e.zero_len, ← ih']
      simp only [madeCells, Array.toList_map, Array.toList_range, List.getElem?_map]
      by_cases h2 : j < (n + 1) * e.sz
      · have h3 : j - e.sz < n * e.sz := by rw [Nat.add_mul] at h2; omega
        rw [List.getElem?_range h2, List.getElem?_range h3]
        simp only [Option.map_some, hs]
        congr 2
        rw [← Nat.mod_eq_sub_mod (by omega)]
      · have h3 : ¬ j - e.sz < n * e.sz := by rw [Nat.add_mul] at h2; omega
        rw [List.getElem?_eq_none (by simp; omega), List.getElem?_eq_none (by simp; omega)]

theorem makeSlice_ok (hC : CxTy P C) (hI : Inv w0 c0 U E a w G) (hR : RI ops E a.tmps) (hg : Gd ops a.tmps g) {tk : Nat} (h3 : 3 ≤ tk) (hU : ¬ U tk) {o : Oper} {t : TypeId} {n c : Operand} {ef : Ef}
    (ho : o.op = .makeSlice t n c) (h : evOp0 C ops E.rd tk g o = some ef) : EfY w0 c0 (fun u => U u ∨ u = tk) E a ((execOp a.eval o).run P w) ef := by
  simp only [evOp0, ho] at h
  split at h
  · rename_i e fs el x sh y sh' hi hn hcc
    cases h
    intro hd
    obtain ⟨h0, hlt, rfl⟩ := of_decide_eq_true hd
    have hlt' : @LT.lt Int Int.instLTInt y 4294967296 := hlt
    obtain ⟨hF, hu, hE⟩ := hC.tt t _ hi
    have he1 := eval_int hI hR hg hn
    have he2 := eval_int hI hR hg hcc
    obtain ⟨inf, d, hinf, hisz, hizero, hby, _⟩ := hE
    have hb : (inf.bytes : Int) * y ≤ 281474976710656 := by
      have h1 : (inf.bytes : Int) ≤ 32768 := by omega
      have h2 : (inf.bytes : Int) * y ≤ 32768 * y := Int.mul_le_mul_of_nonneg_right h1 h0
      omega
    have hr := run_make (P := P) w t el inf _ hu hinf hizero .i64 .i64 y y h0 (Int.le_refl _) hb (by omega)
    have hct := mkv_cells (τ := e) e.zero_len (zero_one e)
    rw [hisz] at hr
    refine newRow_ok hI h3 hU (e := e) (l := List.replicate y.toNat e.dflt) (cs := (List.replicate y.toNat e.zero).flatten) (B := []) el (n := y.toNat) (cap := y.toNat) (by simp) ?_ (Nat.le_refl _) [] ?_ (by simp) (by simp) (by simp) (by simp) (r := _) ?_
    · exact RepL.replicate (Rep.zero w e) _
    · simp [List.length_flatten, e.zero_len, List.map_replicate, List.sum_replicate_nat]
    · simp only [execOp, ho]
      refine run_v ?_
      rw [he1, he2, hr]
      have hm := made_rep (e := e) y.toNat (mkv e e.zero).cells hct
      congr 3
      rw [List.append_nil]
      exact Array.ext' (by rw [hm])
  · cases h

theorem buildSlice_ok (hC : CxTy P C) (hI : Inv w0 c0 U E a w G) (hR : RI ops E a.tmps) (hg : Gd ops a.tmps g) {tk : Nat} (h3 : 3 ≤ tk) (hU : ¬ U tk) {o : Oper} {t : TypeId} {n : Nat} {ps : Array (Nat × Operand)} {ef : Ef}
    (ho : o.op = .buildSlice t n ps) (h : evOp0 C ops E.rd tk g o = some ef) : EfY w0 c0 (fun u => U u ∨ u = tk) E a ((execOp a.eval o).run P w) ef := by
  simp only [evOp0, ho] at h
  split at h
  · rename_i e fs el hi
    split at h
    · rename_i hc
      simp only [Bool.and_eq_true, decide_eq_true_eq] at hc
      obtain ⟨hps, hsm⟩ := hc
      rw [Option.map_eq_some_iff] at h
      obtain ⟨⟨xs, ss⟩, hr, rfl⟩ := h
      obtain ⟨hF, hu, hE⟩ := hC.tt t _ hi
      obtain ⟨inf, d, hinf, hisz, hizero, hby, _⟩ := hE
      obtain ⟨cvs, cells', k1, k2, k3, k4, k5⟩ := list_ok hI hR hg ps.toList 0 xs ss ((Array.range (n * e.sz)).map ((mkv e e.zero).cells[· % (mkv e e.zero).cells.size]!)) hr (by simp [hps])
      have hct := mkv_cells (τ := e) e.zero_len (zero_one e)
      have hxl : n = xs.length := by rw [k4]; simp [hps]
      have hlive : ∀ s ∈ ss, s.live = true := fun s hs => (k5 s hs).1
      have hcells : cells'.toList = cvs.flatten := by
        rw [k2]
        simp only [Nat.zero_mul, List.take_zero, List.nil_append, Nat.zero_add]
        rw [List.drop_of_length_le (by simp [hps]), List.append_nil]
      have hrun : (execOp a.eval o).run P w = .ok (.value (.slice (some ⟨w.heap.size, 0, none⟩) n n)) (w.alloc (.cells (cvs.flatten ++ []).toArray el)) := by
        simp only [execOp, ho]
        refine run_v ?_
        have hcl : cells' = (cvs.flatten ++ []).toArray := Array.ext' (by simp [hcells])
        by_cases h0 : n * e.sz = 0
        · have hn0 : n = 0 := by rcases Nat.mul_eq_zero.1 h0 with h | h; exact h; have := e.sz_pos; omega
          subst hn0
          have hps0 : ps.toList = [] := by cases hpl : ps.toList with | nil => rfl | cons x l => have := congrArg List.length hpl; simp [hps] at this
          have hps' : ps = #[] := Array.ext' (by simpa using hps0)
          rw [hps0] at k1
          simp only [List.map_nil, Instr.fill, Option.some.injEq] at k1
          subst hps'
          simp [Instr.buildSlice, run_underlying hu, Go.sizeOf, typeInfo, hinf, Instr.fill, newRow]
          rw [← List.append_nil cvs.flatten, ← hcl, ← k1]
          simp [Array.range_zero']
        · rw [run_buildSlice w t el n _ cells' inf _ hu hinf hizero (by rw [hisz]; omega) (by rw [hisz]; exact h0) (by rw [hisz]; simpa using k1), hcl]
      simp only [litM]
      split
      · rename_i ts hts
        obtain ⟨B, r1, r2, r3⟩ := VOkL.own k3 hts
        have hsub := allOwn_sub hts
        refine newRow_ok hI h3 hU (e := e) (l := xs) el hxl r1 (Nat.le_refl _) [] ?_ (fun b hb => ?_) r3 (fun c hc => .inl ?_) (fun _ => r2) hrun
        · have := RepL.len (sz := e.sz) (fun x c B h => Rep.len h) r1; rw [this, hxl]; simp
        · obtain ⟨s, hs, hcs⟩ := List.mem_flatMap.1 (hsub _ (r3 b hb)); exact ((k5 s hs).2 _ hcs).1
        · obtain ⟨s, hs, hcs⟩ := List.mem_flatMap.1 (hsub _ hc); exact (k5 s hs).2 _ hcs
      · obtain ⟨B, r1, r3⟩ := VOkL.rep k3 hlive
        refine newRow_ok hI h3 hU (e := e) (l := xs) el hxl r1 (Nat.le_refl _) [] ?_ (fun b hb => ?_) (fun b hb => List.mem_eraseDups.2 (r3 b hb)) (fun c hc => .inl ?_) (by simp) hrun
        · have := RepL.len (sz := e.sz) (fun x c B h => Rep.len h) r1; rw [this, hxl]; simp
        · obtain ⟨s, hs, hcs⟩ := List.mem_flatMap.1 (r3 b hb); exact ((k5 s hs).2 _ hcs).1
        · obtain ⟨s, hs, hcs⟩ := List.mem_flatMap.1 (List.mem_eraseDups.1 hc); exact (k5 s hs).2 _ hcs
    · cases h
  · cases h

end
end Vg

/- VG, part 13: cuts, texts, choices; all that writes nothing, together. -/
namespace Vg
open Go

section
variable {P : Program} {C : Cx} {w0 : World} {c0 : C0} {U : Nat → Prop} {E : Env} {a : Act} {w : World} {G : Gh} {ops : List Oper} {g : Option (Nat × Bool)}

theorem RepL.cut {α : Type} {R : α → List Value → List Nat → Prop} {sz : Nat} (hR : ∀ x c B, R x c B → c.length = sz) {l : List α} {cs : List Value} {B : List Nat}
    (h : RepL R l cs B) (i j : Nat) (hij : i ≤ j) (hj : j ≤ l.length) : ∃ B', RepL R ((l.take j).drop i) ((cs.drop (i * sz)).take ((j - i) * sz)) B' ∧ ∀ b ∈ B', b ∈ B := by
  have e1 : l = l.take j ++ l.drop j := (List.take_append_drop j l).symm
  rw [e1] at h
  obtain ⟨B1, B2, rfl, h1, _⟩ := RepL.split hR h
  have e2 : l.take j = (l.take j).take i ++ (l.take j).drop i := (List.take_append_drop i _).symm
  rw [e2] at h1
  obtain ⟨B3, B4, rfl, _, h4⟩ := RepL.split hR h1
  refine ⟨B4, ?_, fun b hb => by simp [hb]⟩
  have l1 : (List.take i (List.take j l) ++ List.drop i (List.take j l)).length = j := by rw [← e2]; simp; omega
  have l2 : ((l.take j).take i).length = i := by simp; omega
  rw [l1, l2, show (cs.take (j * sz)).drop (i * sz) = (cs.drop (i * sz)).take ((j - i) * sz) by rw [List.drop_take, Nat.sub_mul]] at h4
  exact h4

/-- A part of a slice. -/
theorem RepS.cut {e : Ty} {l : List e.den} {v : Value} {B : List Nat} (h : RepS w e.sz (Rep w e) l v B) (i j : Nat) (hij : i ≤ j) (hj : j ≤ l.length) :
    ∃ base n cap, v = .slice base n cap ∧ n = l.length ∧ n ≤ cap ∧ ∃ B', RepS w e.sz (Rep w e) ((l.take j).drop i) (.slice (if cap = i then base else base.map (·.add (i * e.sz))) (j - i) (cap - i)) B' ∧ ∀ b ∈ B', b ∈ B := by
  rcases h with ⟨⟨ao, rfl⟩, rfl, rfl⟩ | ⟨b, off, cap, c, el, fz, Bs, hv, hcap, hb, hsz, rfl, hl⟩
  · simp only [List.length_nil, Nat.le_zero] at hj
    subst hj
    obtain rfl : i = 0 := by omega
    exact ⟨ao, 0, 0, rfl, rfl, Nat.le_refl _, [], .inl ⟨⟨_, rfl⟩, by simp, rfl⟩, by simp⟩
  · refine ⟨some ⟨b, off, none⟩, l.length, cap, hv, rfl, hcap, ?_⟩
    obtain ⟨B', h1, h2⟩ := RepL.cut (sz := e.sz) (fun x c B h => Rep.len h) hl i j hij hj
    have hlen : ((l.take j).drop i).length = j - i := by simp; omega
    have hm1 : (j - i) * e.sz + i * e.sz = j * e.sz := by rw [← Nat.add_mul]; congr 1; omega
    have hm2 : j * e.sz ≤ l.length * e.sz := Nat.mul_le_mul_right _ hj
    have hm3 : l.length * e.sz ≤ cap * e.sz := Nat.mul_le_mul_right _ hcap
    have hm4 : (cap - i) * e.sz + i * e.sz = cap * e.sz := by rw [← Nat.add_mul]; congr 1; omega
    by_cases hc : cap = i
    · refine ⟨b :: B', .inr ⟨b, off, cap - i, c, el, fz, B', ?_, ?_, hb, ?_, rfl, ?_⟩, ?_⟩
      · rw [if_pos hc, hlen]
      · rw [hlen]; omega
      · omega
      · rw [hlen]
        have hz : j - i = 0 := by omega
        rw [hz] at h1 ⊢
        simp only [Nat.zero_mul, List.take_zero] at h1 ⊢
        exact h1
      · intro x hx
        rcases List.mem_cons.1 hx with rfl | hx
        · simp
        · exact List.mem_cons_of_mem _ (h2 x hx)
    · refine ⟨b :: B', .inr ⟨b, off + i * e.sz, cap - i, c, el, fz, B', ?_, ?_, hb, ?_, rfl, ?_⟩, ?_⟩
      · rw [if_neg hc, hlen]; simp [Addr.add_lit]
      · rw [hlen]; omega
      · omega
      · rw [hlen]
        have e0 : (((c.toList.drop off).take (l.length * e.sz)).drop (i * e.sz)).take ((j - i) * e.sz) = (c.toList.drop (off + i * e.sz)).take ((j - i) * e.sz) := by
          rw [List.drop_take, List.take_take, List.drop_drop, Nat.min_eq_left (by omega)]
        rw [e0] at h1
        exact h1
      · intro x hx
        rcases List.mem_cons.1 hx with rfl | hx
        · simp
        · exact List.mem_cons_of_mem _ (h2 x hx)

theorem cut_ok (hI : Inv w0 c0 U E a w G) {e : Ty} {l : List e.den} {v : Value} {m : M} (hr : RowOk w G e l v m) (hm : m ≠ .dead) (hc : ∀ c ∈ m.cols, 0 < c ∧ U c ∧ G.bx c = false)
    (i j : Nat) (hij : i ≤ j) (hj : j ≤ l.length) {r : Result Next}
    (hrun : ∀ base n cap, v = .slice base n cap → n = l.length → n ≤ cap → r = .ok (.value (.slice (if cap = i then base else base.map (·.add (i * e.sz))) (j - i) (cap - i))) w) {y : List e.den} (hy : y = (l.take j).drop i) :
    Yields w0 c0 U E a r (.d ⟨.sl e, y, .sl (.sha m.cols)⟩) := by
  subst hy
  obtain ⟨B, hB, hBc⟩ := hr.rep hm
  obtain ⟨base, n, cap, h1, h2, h3, B', h4, h5⟩ := hB.cut i j hij hj
  refine yields_same hI (hrun base n cap h1 h2 h3) ⟨[_], rfl, _, rfl, ⟨B', h4, fun b hb => hBc b (h5 b hb)⟩, fun he => ?_⟩ (Ment.d hc) (by rintro _ _ ⟨⟩)
  cases m with
  | row t hs nd => simp [M.cols] at he
  | sha hs =>
    have hv := hr.2 he
    rw [hv] at h1
    cases h1
    have hj0 : j = 0 := by omega
    have hi0 : i = 0 := by omega
    subst hj0 hi0
    rfl
  | nst b E i o p fr => simp [M.cols] at he
  | dead => exact absurd rfl hm

theorem run_bound {k : IntKind} {i : Int} {y : Nat} {code : BoundsCode} (h0 : 0 ≤ i) (h1 : i ≤ y) : (Instr.sliceBound (.int k i) y code).run P w = .ok i.toNat w := run_sliceBound w k i y code h0 h1

theorem slice_ok (hC : CxTy P C) (hI : Inv w0 c0 U E a w G) (hR : RI ops E a.tmps) (hg : Gd ops a.tmps g) {tk : Nat} {o : Oper} {t : TypeId} {x : Operand} {lo hi mx : Option Operand} {ef : Ef}
    (ho : o.op = .slice t x lo hi mx) (h : evOp0 C ops E.rd tk g o = some ef) : EfY w0 c0 U E a ((execOp a.eval o).run P w) ef := by
  simp only [evOp0, ho] at h
  split at h
  · cases h
  rename_i ti hti
  have hT := hC.tt t ti hti
  have sl : ∀ {e : Ty}, ti.τ = .sl e → P.underlying t = some (.slice ti.el) ∧ TyFacts P ti.el e := by
    intro e he; have := hT.2; rw [he] at this; exact this
  have st : ti.τ = .str → P.underlying t = some .string := by intro he; have := hT.2; rw [he] at this; exact this
  split at h
  · -- all
    rename_i e l m hx hlo hhi
    obtain rfl := Option.map_eq_none_iff.1 hlo
    obtain rfl := Option.map_eq_none_iff.1 hhi
    split at h
    · rename_i hτ
      cases h
      obtain ⟨hu, hE⟩ := sl hτ
      obtain ⟨m', hm, hrow, hd, hmc⟩ := eval_sl hI hR hg hx
      simp only [Sh.sl.injEq] at hm; subst hm
      refine cut_ok hI hrow hd hmc 0 l.length (Nat.zero_le _) (Nat.le_refl _) ?_ (by simp)
      intro base n cap hv hn hcap
      simp only [execOp, ho]
      refine run_v ?_
      rw [hv]
      simp [Instr.sliceAt, Instr.slice, Instr.sliceBounds, run_underlying hu, run_sizeOf' hE, hn]
    · cases h
  · -- from lo
    rename_i e l m av ash hx hlo hhi
    obtain ⟨lo', rfl, hlo2⟩ := Option.map_eq_some_iff.1 hlo
    obtain rfl := Option.map_eq_none_iff.1 hhi
    split at h
    · rename_i hτ
      cases h
      intro hcc
      obtain ⟨h0, h1⟩ := of_decide_eq_true hcc
      obtain ⟨hu, hE⟩ := sl hτ
      obtain ⟨m', hm, hrow, hd, hmc⟩ := eval_sl hI hR hg hx
      simp only [Sh.sl.injEq] at hm; subst hm
      have ha := eval_int hI hR hg hlo2
      have h1' : @LE.le Int Int.instLEInt av (l.length : Int) := h1
      have h0' : @LE.le Int Int.instLEInt 0 av := h0
      refine cut_ok hI hrow hd hmc av.toNat l.length (by omega) (Nat.le_refl _) ?_ (by simp)
      intro base n cap hv hn hcap
      simp only [execOp, ho]
      refine run_v ?_
      rw [hv]
      have := run_bound (P := P) (w := w) (k := .i64) (code := .sliceB) h0' h1'
      simp [Instr.sliceAt, Instr.slice, Instr.sliceBounds, run_underlying hu, run_sizeOf' hE, hn, ha, this]
    · cases h
  · -- to hi
    rename_i e l m av ash hx hlo0 hlo
    obtain rfl := Option.map_eq_none_iff.1 hlo0
    obtain ⟨hi', rfl, hlo2⟩ := Option.map_eq_some_iff.1 hlo
    split at h
    · rename_i hτ
      cases h
      intro hcc
      obtain ⟨h0, h1⟩ := of_decide_eq_true hcc
      obtain ⟨hu, hE⟩ := sl hτ
      obtain ⟨m', hm, hrow, hd, hmc⟩ := eval_sl hI hR hg hx
      simp only [Sh.sl.injEq] at hm; subst hm
      have ha := eval_int hI hR hg hlo2
      have h1' : @LE.le Int Int.instLEInt av (l.length : Int) := h1
      have h0' : @LE.le Int Int.instLEInt 0 av := h0
      refine cut_ok hI hrow hd hmc 0 av.toNat (Nat.zero_le _) (by omega) ?_ (by simp)
      intro base n cap hv hn hcap
      simp only [execOp, ho]
      refine run_v ?_
      rw [hv]
      have := run_bound (P := P) (w := w) (k := .i64) (y := cap) (code := .sliceAcap) h0' (by omega)
      simp [Instr.sliceAt, Instr.slice, Instr.sliceBounds, run_underlying hu, run_sizeOf' hE, ha, this]
    · cases h
  · -- both
    rename_i e l m av ash bv bsh hx hlo hhi
    obtain ⟨lo', rfl, hlo2⟩ := Option.map_eq_some_iff.1 hlo
    obtain ⟨hi', rfl, hhi2⟩ := Option.map_eq_some_iff.1 hhi
    split at h
    · rename_i hτ
      cases h
      intro hcc
      obtain ⟨h0, h1, h2⟩ := of_decide_eq_true hcc
      obtain ⟨hu, hE⟩ := sl hτ
      obtain ⟨m', hm, hrow, hd, hmc⟩ := eval_sl hI hR hg hx
      simp only [Sh.sl.injEq] at hm; subst hm
      have ha := eval_int hI hR hg hlo2
      have hb := eval_int hI hR hg hhi2
      have h0' : @LE.le Int Int.instLEInt 0 av := h0
      have h1' : @LE.le Int Int.instLEInt av bv := h1
      have h2' : @LE.le Int Int.instLEInt bv (l.length : Int) := h2
      have hbn : (bv.toNat : Int) = bv := Int.toNat_of_nonneg (by omega)
      refine cut_ok hI hrow hd hmc av.toNat bv.toNat (by omega) (by omega) ?_ rfl
      intro base n cap hv hn hcap
      simp only [execOp, ho]
      refine run_v ?_
      rw [hv]
      have e1 := run_bound (P := P) (w := w) (k := .i64) (y := cap) (code := .sliceAcap) (i := bv) (by omega) (by omega)
      have e2 := run_bound (P := P) (w := w) (k := .i64) (y := bv.toNat) (code := .sliceB) (i := av) h0' (by omega)
      simp [Instr.sliceAt, Instr.slice, Instr.sliceBounds, run_underlying hu, run_sizeOf' hE, ha, hb, e1, e2]
    · cases h
  · -- text from
    rename_i s ssh av ash hx hlo hhi
    obtain ⟨lo', rfl, hlo2⟩ := Option.map_eq_some_iff.1 hlo
    obtain rfl := Option.map_eq_none_iff.1 hhi
    split at h
    · rename_i hτ
      cases h
      intro hcc
      obtain ⟨h0, h1⟩ := of_decide_eq_true hcc
      have hs := eval_str hI hR hg hx
      have ha := eval_int hI hR hg hlo2
      have e2 := run_bound (P := P) (w := w) (k := .i64) (y := s.size) (code := .sliceB) (i := av) h0 h1
      refine yields_str hI ?_
      simp only [execOp, ho]
      refine run_v ?_
      simp [Instr.sliceAt, Instr.slice, Instr.sliceBounds, run_underlying (st hτ), hs, ha, e2]
    · cases h
  · -- text to
    rename_i s ssh av ash hx hlo0 hlo
    obtain rfl := Option.map_eq_none_iff.1 hlo0
    obtain ⟨hi', rfl, hlo2⟩ := Option.map_eq_some_iff.1 hlo
    split at h
    · rename_i hτ
      cases h
      intro hcc
      obtain ⟨h0, h1⟩ := of_decide_eq_true hcc
      have hs := eval_str hI hR hg hx
      have ha := eval_int hI hR hg hlo2
      have e2 := run_bound (P := P) (w := w) (k := .i64) (y := s.size) (code := .sliceAlen) (i := av) h0 h1
      refine yields_str hI ?_
      simp only [execOp, ho]
      refine run_v ?_
      simp [Instr.sliceAt, Instr.slice, Instr.sliceBounds, run_underlying (st hτ), hs, ha, e2]
    · cases h
  · -- text both
    rename_i s ssh av ash bv bsh hx hlo hhi
    obtain ⟨lo', rfl, hlo2⟩ := Option.map_eq_some_iff.1 hlo
    obtain ⟨hi', rfl, hhi2⟩ := Option.map_eq_some_iff.1 hhi
    split at h
    · rename_i hτ
      cases h
      intro hcc
      obtain ⟨h0, h1, h2⟩ := of_decide_eq_true hcc
      have hs := eval_str hI hR hg hx
      have ha := eval_int hI hR hg hlo2
      have hb := eval_int hI hR hg hhi2
      have h0' : @LE.le Int Int.instLEInt 0 av := h0
      have h1' : @LE.le Int Int.instLEInt av bv := h1
      have h2' : @LE.le Int Int.instLEInt bv (s.size : Int) := h2
      have hbn : (bv.toNat : Int) = bv := Int.toNat_of_nonneg (by omega)
      have e1 := run_bound (P := P) (w := w) (k := .i64) (y := s.size) (code := .sliceAlen) (i := bv) (by omega) (by omega)
      have e2 := run_bound (P := P) (w := w) (k := .i64) (y := bv.toNat) (code := .sliceB) (i := av) h0' (by omega)
      refine yields_str hI ?_
      simp only [execOp, ho]
      refine run_v ?_
      simp [Instr.sliceAt, Instr.slice, Instr.sliceBounds, run_underlying (st hτ), hs, ha, hb, e1, e2]
    · cases h
  · cases h

end
end Vg

/- VG, part 14: the rest of what writes nothing; all of it together. -/
namespace Vg
open Go

section
variable {P : Program} {C : Cx} {w0 : World} {c0 : C0} {U : Nat → Prop} {E : Env} {a : Act} {w : World} {G : Gh} {ops : List Oper} {g : Option (Nat × Bool)}

theorem run_eqBool (d : Nat) (t : TypeId) (p q : Bool) (h : P.underlying t = some .bool) : (Op.equalIn (d + 1) t (.bool p) (.bool q)).run P w = .ok (p == q) w := by
  simp [Op.equalIn, run_underlying h]

theorem rep_flat : ∀ {τ : Ty} {x : τ.den} {cs : List Value} {B : List Nat}, τ.flat = true → Rep w τ x cs B → B = []
  | .int _, _, _, _, _, h => h.2
  | .bool, _, _, _, _, h => h.2
  | .str, _, _, _, _, h => h.2
  | .sl _, _, _, _, hf, _ => by simp [Ty.flat] at hf
  | .pair a b, p, cs, B, hf, h => by
    obtain ⟨c1, c2, B1, B2, rfl, rfl, h1, h2⟩ := h
    simp only [Ty.flat, Bool.and_eq_true] at hf
    rw [rep_flat hf.1 h1, rep_flat hf.2 h2]; rfl

theorem bin_ok (hC : CxTy P C) (hI : Inv w0 c0 U E a w G) (hR : RI ops E a.tmps) (hg : Gd ops a.tmps g) {tk : Nat} {o : Oper} {op : BinOp} {t u : TypeId} {x y : Operand} {ef : Ef}
    (ho : o.op = .binOp op t x y u) (h : evOp0 C ops E.rd tk g o = some ef) : EfY w0 c0 U E a ((execOp a.eval o).run P w) ef := by
  simp only [evOp0, ho] at h
  split at h
  · rename_i ti p q hti hx hy
    split at h
    · rename_i hτ
      simp only [execOp, ho]
      unfold evBin at h
      split at h
      · rename_i k m sh k' n sh'
        split at h
        · rename_i hk
          simp only [Bool.or_eq_true, decide_eq_true_eq] at hk
          exact binI_ok hI (by rcases hk with (hk | hk) | hk <;> simp [hk]) (eval_int hI hR hg hx) (eval_int hI hR hg hy) h
        · cases h
      · exact binS_ok hI (eval_str hI hR hg hx) (eval_str hI hR hg hy) h
      · rename_i m sh n sh'
        have hT := (hC.tt t ti hti).2
        have ht : P.underlying t = some .bool := by rw [← hτ] at hT; exact hT
        have e1 := eval_bool hI hR hg hx
        have e2 := eval_bool hI hR hg hy
        rw [e1, e2]
        have hgd : ∀ v, eqGuard op t x y (.bool m) v = pure () := fun v => eqGuard_at_bool ..
        split at h
        · cases h; exact yields_bool hI (by simp [hgd, binOp, Op.equal, Op.maxDepth, run_eqBool (w := w) 9999 t m n ht])
        · cases h; exact yields_bool hI (by simp [hgd, binOp, Op.equal, Op.maxDepth, run_eqBool (w := w) 9999 t m n ht])
        · cases h
      · rename_i b1 b2 m sh τ n sh'
        split at h
        · rename_i n' hn
          split at h
          · rename_i hflat
            have hcast := castV_ok hn
            simp only [TV.mk.injEq] at hcast
            obtain ⟨rfl, hcast⟩ := hcast
            simp only [heq_eq_eq, and_true] at hcast
            subst hcast
            obtain ⟨⟨c1, e1, v1⟩, _, l1⟩ := argD_ok hI hR hg hx
            obtain ⟨⟨c2, e2, v2⟩, _, l2⟩ := argD_ok hI hR hg hy
            obtain ⟨B1, r1, _⟩ := v1.rep l1
            obtain ⟨B2, r2, _⟩ := v2.rep l2
            obtain rfl := rep_flat hflat r1
            obtain rfl := rep_flat hflat r2
            have heq := hC.eq t ti hti
            rw [← hτ] at heq
            have hE := heq rfl hflat w
            rw [e1, e2]
            split at h
            · cases h
              have := hE .eql x y m n c1 c2 (.inl rfl) r1 r2
              exact yields_bool hI (run_v (by simpa using this))
            · cases h
              have := hE .neq x y m n c1 c2 (.inr rfl) r1 r2
              exact yields_bool hI (run_v (by simpa using this))
            · cases h
          · cases h
        · cases h
      · cases h
    · cases h
  · cases h

theorem pick_ok (hI : Inv w0 c0 U E a w G) (hR : RI ops E a.tmps) (hg : Gd ops a.tmps g) {tk : Nat} {o : Oper} {c x y : Operand} {ef : Ef} (ho : o.op = .pick c x y)
    (h : evOp0 C ops E.rd tk g o = some ef) : EfY w0 c0 U E a ((execOp a.eval o).run P w) ef := by
  simp only [evOp0, ho] at h
  split at h
  · rename_i t sh sx sy hc hx hy
    split at h
    · rename_i p sh1 q sh2 h1 h2
      cases h
      have ec : a.eval c = .bool t := by
        obtain ⟨⟨cs, e1, e2⟩, _⟩ := arg_ok hI hR hg hc
        cases sh with
        | leaf => rw [e1, show cs = _ from e2]; rfl
        | sl m => exact e2.elim
        | pair _ _ => exact e2.elim
      have arm : ∀ {z : Operand} {sz : SV} {b : Bool} {r : Bool} {s : Sh}, opnd C E.rd o.type z = some sz → pickArm ops c b sz = some (.d ⟨.bool, r, s⟩) → t = b → a.eval z = .bool r := by
        intro z sz b r s hz hp htb
        obtain ⟨k1, _⟩ := opnd_ok hI hz
        have hgz := opnd_g hR hz
        have fin : SOk w G (.d ⟨.bool, r, s⟩) (a.eval z) → a.eval z = .bool r := by
          rintro ⟨cs, e1, e2⟩
          cases s with
          | leaf => rw [e1, show cs = _ from e2]; rfl
          | sl m => exact e2.elim
          | pair _ _ => exact e2.elim
        cases sz with
        | g j w' act v =>
          simp only [pickArm] at hp
          split at hp
          · rename_i n
            split at hp
            · rename_i hcnd
              simp only [Bool.and_eq_true, decide_eq_true_eq] at hcnd
              simp only [Option.some.injEq] at hp
              subst hp
              have hy' : yielded ops.toArray a.tmps j = some w' := by
                have hb : ops.toArray[j]?.bind (·.dst) = some n := by simpa using hcnd.2
                have hev : a.tmps.getD n undef = .bool t := ec
                have hget : a.tmps[n]? = some (.bool t) := by
                  rw [Array.getD_eq_getD_getElem?] at hev
                  cases hq : a.tmps[n]? with
                  | none => rw [hq] at hev; cases hev
                  | some v => rw [hq] at hev; simp at hev; rw [hev]
                simp only [yielded, hb, Option.bind_some, hget]
                rw [htb, hcnd.1]
              exact fin (k1.1 ((hgz j w' act _ rfl).2 hy')).2
            · cases hp
          · cases hp
        | _ => simp only [pickArm, Option.some.injEq] at hp; rw [hp] at k1; exact fin k1
      refine yields_bool hI ?_
      simp only [execOp, ho, ec]
      cases t with
      | true => simp [asBool, arm hx h1 rfl]
      | false => simp [asBool, arm hy h2 rfl]
    · cases h
  · cases h

theorem nilCheck_ok (hI : Inv w0 c0 U E a w G) (hR : RI ops E a.tmps) (hg : Gd ops a.tmps g) {tk : Nat} {o : Oper} {x : Operand} {ef : Ef} (ho : o.op = .nilCheck x)
    (h : evOp0 C ops E.rd tk g o = some ef) : EfY w0 c0 U E a ((execOp a.eval o).run P w) ef := by
  simp only [evOp0, ho] at h
  split at h
  · rename_i t o' p τ hx
    cases h
    obtain ⟨h1, h2⟩ := arg_ok hI hR hg hx
    have h1' := h1
    obtain ⟨bk, _, _, k⟩ := h1'
    exact yields_same hI (by simp only [execOp, ho, k]; rfl) (k ▸ h1) h2 (by rintro _ _ ⟨⟩)
  · rename_i t e i o' p τ hx
    cases h
    obtain ⟨h1, h2⟩ := arg_ok hI hR hg hx
    have h1' := h1
    obtain ⟨bk, _, _, _, _, _, _, _, k⟩ := h1'
    exact yields_same hI (by simp only [execOp, ho, k]; rfl) (k ▸ h1) h2 (by rintro _ _ ⟨⟩)
  · rename_i hs v hx
    cases h
    obtain ⟨h1, h2⟩ := arg_ok hI hR hg hx
    have h1' := h1
    obtain ⟨bk, _, _, _, _, k, _⟩ := h1'
    exact yields_same hI (by simp only [execOp, ho, k]; rfl) (k ▸ h1) h2 (by rintro _ _ ⟨⟩)
  · cases h

theorem extract_ok (hI : Inv w0 c0 U E a w G) (hR : RI ops E a.tmps) (hg : Gd ops a.tmps g) {tk : Nat} {o : Oper} {x : Operand} {j : Nat} {ef : Ef} (ho : o.op = .extract x j)
    (h : evOp0 C ops E.rd tk g o = some ef) : EfY w0 c0 U E a ((execOp a.eval o).run P w) ef := by
  simp only [evOp0, ho] at h
  split at h
  · rename_i l hx
    rw [Option.map_eq_some_iff] at h
    obtain ⟨v, hv, rfl⟩ := h
    obtain ⟨⟨vs, k1, k2, k3⟩, h2⟩ := arg_ok hI hR hg hx
    obtain ⟨u, cs, q1, q2, q3⟩ := k3 j v hv
    refine yields_same hI (mv := u) ?_ ⟨cs, q2, q3⟩ (Ment.d fun c hc => h2.1 c (List.mem_flatMap.2 ⟨v, List.mem_of_getElem? hv, hc⟩)) (by rintro _ _ ⟨⟩)
    simp only [execOp, ho, k1]
    refine run_v ?_
    simp [Instr.extract, q1]
  · cases h

theorem field_ok (hC : CxTy P C) (hI : Inv w0 c0 U E a w G) (hR : RI ops E a.tmps) (hg : Gd ops a.tmps g) {tk : Nat} {o : Oper} {s : TypeId} {x : Operand} {j : Nat} {ef : Ef} (ho : o.op = .field s x j)
    (h : evOp0 C ops E.rd tk g o = some ef) : EfY w0 c0 U E a ((execOp a.eval o).run P w) ef := by
  simp only [evOp0, ho] at h
  split at h
  · rename_i i v hi hx
    split at h
    · rename_i hc
      simp only [Bool.and_eq_true, decide_eq_true_eq] at hc
      rw [Option.map_eq_some_iff] at h
      obtain ⟨r, hr, rfl⟩ := h
      obtain ⟨⟨cs, e1, hv⟩, hm, _⟩ := argD_ok hI hR hg hx
      have hstruct : i.τ.isPair = true := by
        cases hp : i.τ.isPair with
        | true => rfl
        | false => rw [hC.fs s i hi hp] at hc; simp at hc
      obtain ⟨fields, hu, hsz, hf⟩ := (hC.tt s i hi).struct hstruct
      have hj : j < fields.size := by omega
      obtain ⟨f1, f2, σ, f3, f4⟩ := hf j fields[j] (Array.getElem?_eq_getElem hj)
      obtain ⟨q1, q2, q3, q4⟩ := VOk.sub hr hv
      rw [hc.1, f3] at q3
      simp only [Option.some.injEq] at q3
      subst q3
      refine yields_same hI ?_ ⟨_, rfl, q1⟩ (Ment.d fun c hcc => hm c (q4 c hcc)) (by rintro _ _ ⟨⟩)
      simp only [execOp, ho, e1]
      refine run_v ?_
      have hlen := VOk.len hv
      rw [mkv_pair (by rw [hc.1]; exact hstruct)]
      have hpart : (part fields[j].type cs.toArray fields[j].offset).run P w = .ok (mkv r.τ ((cs.drop (v.τ.off (fpath i.fs.length j))).take r.τ.sz)) w := by
        rw [f1, ← hc.1]
        cases hpr : r.τ.isPair with
        | true => simp [part, run_isAgg f4, hpr, run_sizeOf' f4, mkv_pair hpr, List.extract_eq_take_drop]
        | false =>
          have h1 : r.τ.sz = 1 := by cases hrt : r.τ <;> simp_all [Ty.isPair, Ty.sz]
          have hlt : v.τ.off (fpath i.fs.length j) < cs.length := by omega
          have hw : (cs.drop (v.τ.off (fpath i.fs.length j))).take 1 = [cs[v.τ.off (fpath i.fs.length j)]] := by
            rw [List.take_one, List.head?_drop]; simp [hlt]
          have hm : ∀ u : Value, mkv r.τ [u] = u := by intro u; cases hrt : r.τ <;> simp_all [mkv, Ty.isPair]
          rw [h1, hw, hm]
          simp [part, run_isAgg f4, hpr, hlt]
      simp [Instr.field, run_underlying hu, Array.getElem?_eq_getElem hj, asAgg, hpart]
    · cases h
  · cases h

end
end Vg

/- VG, part 15: all that writes nothing, in one law. -/
namespace Vg
open Go

section
variable {P : Program} {C : Cx} {w0 : World} {c0 : C0} {U : Nat → Prop} {E : Env} {a : Act} {w : World} {G : Gh} {ops : List Oper} {g : Option (Nat × Bool)}

theorem un_ok (hI : Inv w0 c0 U E a w G) (hR : RI ops E a.tmps) (hg : Gd ops a.tmps g) {tk : Nat} {o : Oper} {op : UnOp} {t : TypeId} {x : Operand} {ef : Ef}
    (ho : o.op = .unOp op t x) (h : evOp0 C ops E.rd tk g o = some ef) : EfY w0 c0 U E a ((execOp a.eval o).run P w) ef := by
  simp only [evOp0, ho] at h
  split at h
  · rename_i b sh hx
    cases h
    exact yields_bool hI (by simp only [execOp, ho, eval_bool hI hR hg hx]; exact run_v (by simp [Op.unary]))
  · rename_i k n sh hx
    cases h
    exact yields_int hI (by simp only [execOp, ho, eval_int hI hR hg hx]; exact run_v (by simp [Op.unary, Op.intArith]))
  · cases h

theorem run_under {t : TypeId} {i : TI} (h : TyOk P t i) : ∃ d, (underlying t).run P w = .ok d w := by
  obtain ⟨⟨inf, d, _, _, _, _, hu, _⟩, _⟩ := h
  exact ⟨d, run_underlying hu w⟩

theorem rep_bytes : ∀ {l : List Int} {cs : List Value} {B : List Nat}, RepL (Rep w (.int .u8)) l cs B → cs = l.map fun n => Value.int .u8 n
  | [], _, _, h => h.1
  | n :: l, cs, B, h => by
    obtain ⟨c1, c2, B1, B2, rfl, rfl, h1, h2⟩ := h
    rw [h1.1, rep_bytes h2]; rfl

theorem conv_ok (hC : CxTy P C) (hI : Inv w0 c0 U E a w G) (hR : RI ops E a.tmps) (hg : Gd ops a.tmps g) {tk : Nat} {o : Oper} {s d : TypeId} {x : Operand} {ef : Ef}
    (ho : o.op = .convert s d x) (h : evOp0 C ops E.rd tk g o = some ef) : EfY w0 c0 U E a ((execOp a.eval o).run P w) ef := by
  simp only [evOp0, ho] at h
  split at h
  · rename_i si hsi
    obtain ⟨ds, hds⟩ := run_under (w := w) (hC.tt s si hsi)
    split at h
    · rename_i k fs el k' n sh hd hx
      cases h
      have hu : P.underlying d = some (.int k) := (hC.tt d _ hd).2
      refine yields_int hI ?_
      simp only [execOp, ho, eval_int hI hR hg hx]
      refine run_v ?_
      simp [convert, hds, run_underlying hu, Conv.intToInt]
    · rename_i fs el v sh hd hx
      cases h
      have hu : P.underlying d = some .string := (hC.tt d _ hd).2
      refine yields_str hI ?_
      simp only [execOp, ho, eval_str hI hR hg hx]
      refine run_v ?_
      simp [convert, hds, run_underlying hu]
    · rename_i fs el l sh hd hx
      split at h
      · rename_i hτ
        cases h
        have hu : P.underlying d = some .string := (hC.tt d _ hd).2
        have hT := (hC.tt s si hsi).2
        rw [hτ] at hT
        obtain ⟨hus, hel⟩ := hT
        obtain ⟨m, hm, hrow, hd', _⟩ := eval_sl hI hR hg hx
        obtain ⟨B, hB, _⟩ := hrow.rep hd'
        refine yields_str hI ?_
        simp only [execOp, ho]
        refine run_v ?_
        have hue : P.underlying si.el = some (.int .u8) := hC.u8 s si hsi hτ
        rcases hB with ⟨hv, rfl, _⟩ | ⟨b, off, cap, c, el', fz, Bs, hv, hcap, hb, hsz, rfl, hl⟩
        · obtain ⟨ao, hv⟩ := hv
          rw [hv]
          cases ao with
          | none =>
            simp [convert, run_underlying hus, run_underlying hu, run_underlying hue, Conv.bytesToString]
            rfl
          | some ad =>
            have hld := run_loadCells_list (P := P) w ad [] (fun j v hv => by simp at hv)
            rw [run_convert_bytes_string w s d _ _ _ _ hus hue hu, run_bytesToString w _ 0 0 [] (by simpa using hld), foldl_push_bytes]
            congr 3
        · rw [hv]
          have hsz1 : (Ty.int IntKind.u8).sz = 1 := rfl
          rw [hsz1, Nat.mul_one] at hl hsz
          have hcs := rep_bytes hl
          have hlen : ((c.toList.drop off).take l.length).length = l.length := by
            have := RepL.len (sz := 1) (fun x c B h => Rep.len h) hl
            simpa using this
          have hld := run_loadCells_list (P := P) w ⟨b, off, none⟩ ((c.toList.drop off).take l.length) (fun j v hv => by
            rw [Addr.add_lit, cell_row hb]; exact win_get hv)
          rw [hlen, hcs] at hld
          rw [run_convert_bytes_string w s d _ _ _ _ hus hue hu, run_bytesToString w _ l.length cap l hld, foldl_push_bytes]
          congr 3
          simp
      · cases h
    · cases h
  · cases h

theorem index_ok (hC : CxTy P C) (hI : Inv w0 c0 U E a w G) (hR : RI ops E a.tmps) (hg : Gd ops a.tmps g) {tk : Nat} {o : Oper} {t : TypeId} {x n : Operand} {ef : Ef}
    (ho : o.op = .index t x n) (h : evOp0 C ops E.rd tk g o = some ef) : EfY w0 c0 U E a ((execOp a.eval o).run P w) ef := by
  simp only [evOp0, ho] at h
  split at h
  · rename_i ti s sh k i sh' hti hx hn
    split at h
    · rename_i hτ
      cases h
      intro hc
      obtain ⟨h0, h1⟩ := of_decide_eq_true hc
      have hu : P.underlying t = some .string := by have := (hC.tt t ti hti).2; rw [hτ] at this; exact this
      refine yields_int hI ?_
      simp only [execOp, ho, eval_str hI hR hg hx, eval_int hI hR hg hn]
      refine run_v ?_
      have h0' : @LE.le Int Int.instLEInt 0 i := h0
      have h1' : @LT.lt Int Int.instLTInt i (s.size : Int) := h1
      have hlt : i.toNat < s.size := by omega
      have hget : s[i.toNat]? = some s[i.toNat] := getElem?_pos ..
      have hb : bt s i = (s[i.toNat].toNat : Int) := by
        simp only [bt]
        have : s.data.toList[i.toNat]? = some s[i.toNat] := by
          rw [Array.getElem?_toList, Array.getElem?_eq_getElem (by exact hlt)]; rfl
        rw [List.getD, this]; rfl
      simp [Instr.index, asIntOf, run_underlying hu, h0', hget, hb]
    · cases h
  · cases h

theorem len_ok (hC : CxTy P C) (hI : Inv w0 c0 U E a w G) (hR : RI ops E a.tmps) (hg : Gd ops a.tmps g) {tk : Nat} {o : Oper} {c : Call} {b : Builtin} {ef : Ef}
    (ho : o.op = .call c) (hb : c.callee = .builtin b) (hq : ∀ x y z u v, ef ≠ .app x y z u v) (h : evOp0 C ops E.rd tk g o = some ef) : EfY w0 c0 U E a ((execOp a.eval o).run P w) ef := by
  simp only [evOp0, ho, hb] at h
  unfold evBuiltin at h
  split at h
  · -- len
    rename_i x t ha hts
    have hargs : c.args = #[x] := Array.ext' (by simpa using ha)
    have htys : c.argTypes = #[t] := Array.ext' (by simpa using hts)
    split at h
    · cases h
    · rename_i ti hti
      split at h
      · rename_i e l sh hx
        split at h
        · rename_i hτ
          cases h
          have hT := (hC.tt t ti hti).2
          rw [hτ] at hT
          obtain ⟨m, hm, hrow, hd', _⟩ := eval_sl hI hR hg hx
          obtain ⟨B, hB, _⟩ := hrow.rep hd'
          refine yields_int hI ?_
          simp only [execOp, ho]
          rcases hB with ⟨⟨ao, hv⟩, rfl, _⟩ | ⟨b, off, cap, c, el', fz, Bs, hv, _⟩ <;>
            simp [resolve, hb, invoke, builtin, hargs, htys, hv, Builtin.len_, run_underlying hT.1, goInt]
        · cases h
      · rename_i s sh hx
        split at h
        · rename_i hτ
          cases h
          have hT := (hC.tt t ti hti).2
          rw [hτ] at hT
          refine yields_int hI ?_
          simp only [execOp, ho]
          simp [resolve, hb, invoke, builtin, hargs, htys, eval_str hI hR hg hx, Builtin.len_, run_underlying hT, goInt]
        · cases h
      · cases h
  · -- min
    rename_i x y t u ha hts
    have hargs : c.args = #[x, y] := Array.ext' (by simpa using ha)
    have htys : c.argTypes = #[t, u] := Array.ext' (by simpa using hts)
    split at h
    · rename_i k m sh k' n sh' hx hy
      split at h
      · rename_i hk
        subst hk
        cases h
        refine yields_int hI ?_
        simp only [execOp, ho]
        simp [resolve, hb, invoke, builtin, hargs, htys, eval_int hI hR hg hx, eval_int hI hR hg hy, Builtin.min_, Builtin.min2]
      · cases h
    · cases h
  · -- max
    rename_i x y t u ha hts
    have hargs : c.args = #[x, y] := Array.ext' (by simpa using ha)
    have htys : c.argTypes = #[t, u] := Array.ext' (by simpa using hts)
    split at h
    · rename_i k m sh k' n sh' hx hy
      split at h
      · rename_i hk
        subst hk
        cases h
        refine yields_int hI ?_
        simp only [execOp, ho]
        simp [resolve, hb, invoke, builtin, hargs, htys, eval_int hI hR hg hx, eval_int hI hR hg hy, Builtin.max_, Builtin.max2]
      · cases h
    · cases h
  · -- append
    split at h
    · split at h
      · split at h
        · split at h
          · cases h; exact absurd rfl (hq _ _ _ _ _)
          · cases h
        · cases h
      · cases h
    · cases h
  · cases h

/-- All that writes nothing. -/
theorem evOp_quiet (hC : CxTy P C) (hI : Inv w0 c0 U E a w G) (hR : RI ops E a.tmps) (hg : Gd ops a.tmps g) {tk : Nat} (h3 : 3 ≤ tk) (hU : ∀ u, tk ≤ u → u < tk + 32 → ¬ U u) {o : Oper} {ef : Ef}
    (h : evOp0 C ops E.rd tk g o = some ef) (hq : (∃ v, ef = .val v) ∨ ∃ c v, ef = .chk c v) (hf : ∀ c f, o.op = .call c → c.callee ≠ .value f) :
    EfY w0 c0 (fun u => U u ∨ (tk ≤ u ∧ u < tk + 32)) E a ((execOp a.eval o).run P w) ef := by
  have m0 : EfY w0 c0 U E a ((execOp a.eval o).run P w) ef → EfY w0 c0 (fun u => U u ∨ (tk ≤ u ∧ u < tk + 32)) E a ((execOp a.eval o).run P w) ef := fun h => h.mono fun u hu => .inl hu
  have m1 : EfY w0 c0 (fun u => U u ∨ u = tk) E a ((execOp a.eval o).run P w) ef → EfY w0 c0 (fun u => U u ∨ (tk ≤ u ∧ u < tk + 32)) E a ((execOp a.eval o).run P w) ef :=
    fun h => h.mono fun u hu => hu.imp id fun e => by omega
  have hU0 := hU tk (Nat.le_refl _) (by omega)
  cases ho : o.op with
  | move x =>
    have h' := h
    simp only [evOp0, ho, Option.map_eq_some_iff] at h'
    obtain ⟨sv, hs, rfl⟩ := h'
    exact m0 (move_ok hI hR hg hs (by simp [execOp, ho]))
  | assign x =>
    have h' := h
    simp only [evOp0, ho, Option.map_eq_some_iff] at h'
    obtain ⟨sv, hs, rfl⟩ := h'
    exact m0 (move_ok hI hR hg hs (by simp [execOp, ho]))
  | pick c x y => exact m0 (pick_ok hI hR hg ho h)
  | alloc t => exact m1 (alloc_ok hC hI h3 hU0 ho h)
  | box t x => exact m1 (box_ok hI hR hg h3 hU0 ho h)
  | build t ps => exact m0 (bld_ok hC hI hR hg ho h)
  | buildSlice t n ps => exact m1 (buildSlice_ok hC hI hR hg h3 hU0 ho h)
  | load t x => exact m0 (load_ok hC hI hR hg ho h)
  | nilCheck x => exact m0 (nilCheck_ok hI hR hg ho h)
  | binOp op t x y u => exact m0 (bin_ok hC hI hR hg ho h)
  | unOp op t x => exact m0 (un_ok hI hR hg ho h)
  | convert s d x => exact m0 (conv_ok hC hI hR hg ho h)
  | makeSlice t n c => exact m1 (makeSlice_ok hC hI hR hg h3 hU0 ho h)
  | slice t x lo hi mx => exact m0 (slice_ok hC hI hR hg ho h)
  | fieldAddr s x j => exact m0 (fieldAddr_ok hC hI hR hg ho h)
  | field s x j => exact m0 (field_ok hC hI hR hg ho h)
  | indexAddr t x n => exact m0 (indexAddr_ok hC hI hR hg ho h)
  | index t x n => exact m0 (index_ok hC hI hR hg ho h)
  | extract x j => exact m0 (extract_ok hI hR hg ho h)
  | store t x y =>
    exfalso
    have key : ∀ e, evOp0 C ops E.rd tk g o = some e → (∀ v, e ≠ .val v) ∧ ∀ c v, e ≠ .chk c v := by
      intro e he
      simp only [evOp0, ho] at he
      split at he
      · split at he
        · obtain ⟨r, _, rfl⟩ := Option.map_eq_some_iff.mp (Option.ite_none_right_eq_some.mp he).2
          exact ⟨fun _ => nofun, fun _ _ => nofun⟩
        · cases he
      · split at he
        · obtain ⟨_, he⟩ := Option.ite_none_right_eq_some.mp he
          obtain ⟨_, he⟩ := Option.ite_none_left_eq_some.mp he
          obtain ⟨r, _, rfl⟩ := Option.map_eq_some_iff.mp he
          exact ⟨fun _ => nofun, fun _ _ => nofun⟩
        · cases he
      · cases he
    obtain ⟨k1, k2⟩ := key _ h
    rcases hq with ⟨v, rfl⟩ | ⟨c, v, rfl⟩
    · exact k1 _ rfl
    · exact k2 _ _ rfl
  | call c =>
    cases hb : c.callee with
    | builtin b => exact m0 (len_ok hC hI hR hg ho hb (by rcases hq with ⟨v, rfl⟩ | ⟨c, v, rfl⟩ <;> simp) h)
    | value f => exact absurd hb (hf c f ho)
    | invoke r m => simp [evOp0, ho, hb] at h
  | _ => simp [evOp0, ho] at h

end
end Vg

/- VG, part 16: what is killed, what is handed over, where memory changes. -/
namespace Vg
open Go

section
variable {P : Program} {C : Cx} {w0 : World} {c0 : C0} {U : Nat → Prop} {E : Env} {a : Act} {w : World} {G : Gh} {ops : List Oper} {g : Option (Nat × Bool)}

/-- A colour of values: told, of no box. -/
def Good (U : Nat → Prop) (G : Gh) (c : Nat) : Prop := 0 < c ∧ U c ∧ G.bx c = false

structure MapOk (w : World) (U : Nat → Prop) (G : Gh) (U' : Nat → Prop) (G' : Gh) (f : M → M) (fe : Nat → Bool) (fr : List Nat → Option (List Nat)) : Prop where
  row : ∀ (e : Ty) (l : List e.den) (v : Value) (m : M), RowOk w G e l v m → (∀ c ∈ m.cols, Good U G c) → RowOk w G' e l v (f m)
  good : ∀ m : M, (∀ c ∈ m.cols, Good U G c) → ∀ c ∈ (f m).cols, Good U' G' c
  rd : ∀ hs hs', fr hs = some hs' → (∀ c ∈ hs, Good U G c) → (∀ c ∈ hs', Good U' G' c) ∧ ∀ b, G.col b ∈ hs → G'.col b ∈ hs'
  hdr : ∀ t, U t → G'.hdr t = G.hdr t
  bx : ∀ t, U t → G.bx t = true → G'.bx t = true ∧ ∀ b, G.col b = t → G'.col b = t
  ru : ∀ t, U t → G.bx t = false → G'.bx t = false
  mono : ∀ t, U t → U' t

section
variable {U' : Nat → Prop} {G' : Gh} {f : M → M} {fe : Nat → Bool} {fr : List Nat → Option (List Nat)}

theorem Sh.map_good (hM : MapOk w U G U' G' f fe fr) : ∀ {sh : Sh}, (∀ c ∈ sh.cols, Good U G c) → ∀ c ∈ (sh.map f).cols, Good U' G' c
  | .leaf, _, c, h => by simp [Sh.map, Sh.cols] at h
  | .sl m, hc, c, h => hM.good m hc c h
  | .pair a b, hc, c, h => by
    simp only [Sh.map, Sh.cols, List.mem_append] at h
    exact h.elim (Sh.map_good hM (fun c h => hc c (by simp [Sh.cols, h])) c) (Sh.map_good hM (fun c h => hc c (by simp [Sh.cols, h])) c)

theorem VOk.map (hM : MapOk w U G U' G' f fe fr) : ∀ {τ : Ty} {x : τ.den} {sh : Sh} {cs : List Value}, VOk w G τ x sh cs → (∀ c ∈ sh.cols, Good U G c) →
    VOk w G' τ x (sh.map f) cs
  | .int _, _, .leaf, _, h, _ => h
  | .bool, _, .leaf, _, h, _ => h
  | .str, _, .leaf, _, h, _ => h
  | .sl e, l, .sl m, cs, h, hc => by
    obtain ⟨v, rfl, hr⟩ := h
    exact ⟨v, rfl, hM.row _ _ _ _ hr hc⟩
  | .pair a b, p, .pair s1 s2, cs, h, hc => by
    obtain ⟨c1, c2, rfl, h1, h2⟩ := h
    exact ⟨c1, c2, rfl, VOk.map hM h1 (fun c h => hc c (by simp [Sh.cols, h])), VOk.map hM h2 (fun c h => hc c (by simp [Sh.cols, h]))⟩
  | .int _, _, .sl _, _, h, _ | .int _, _, .pair _ _, _, h, _ | .bool, _, .sl _, _, h, _ | .bool, _, .pair _ _, _, h, _
  | .str, _, .sl _, _, h, _ | .str, _, .pair _ _, _, h, _ | .sl _, _, .leaf, _, h, _ | .sl _, _, .pair _ _, _, h, _
  | .pair _ _, _, .leaf, _, h, _ | .pair _ _, _, .sl _, _, h, _ => h.elim

theorem Ment.map (hM : MapOk w U G U' G' f fe fr) : ∀ {s : SV}, Ment U G s → Ment U' G' (s.mapM f fe fr)
  | .no, _ => by simp [SV.mapM, Ment, SV.sc, SV.bt, SV.rt]
  | .d v, hm => Ment.d (Sh.map_good hM hm.1)
  | .box t v, hm => by
    have hb := hm.2.1 t (by simp [SV.bt])
    refine ⟨Sh.map_good hM hm.1, ?_, by simp [SV.mapM, SV.rt]⟩
    intro c hc
    simp only [SV.mapM, SV.bt, List.mem_singleton] at hc
    subst hc
    exact ⟨hb.1, hM.mono _ hb.2.1, (hM.bx _ hb.2.1 hb.2.2).1⟩
  | .ptr t o p τ, hm => by
    have hb := hm.2.1 t (by simp [SV.bt])
    refine ⟨by simp [SV.mapM, SV.sc], ?_, by simp [SV.mapM, SV.rt]⟩
    intro c hc
    simp only [SV.mapM, SV.bt, List.mem_singleton] at hc
    subst hc
    exact ⟨hb.1, hM.mono _ hb.2.1, (hM.bx _ hb.2.1 hb.2.2).1⟩
  | .ept t e i o p τ, hm => by
    simp only [SV.mapM]
    split
    · have hb := hm.2.2 t (by simp [SV.rt])
      refine ⟨by simp [SV.sc], by simp [SV.bt], ?_⟩
      intro c hc
      simp only [SV.rt, List.mem_singleton] at hc
      subst hc
      exact ⟨hb.1, hM.mono _ hb.2.1, hM.ru _ hb.2.1 hb.2.2⟩
    · simp [Ment, SV.sc, SV.bt, SV.rt]
  | .rdp hs v, hm => by
    simp only [SV.mapM]
    split
    · rename_i hs' hr
      obtain ⟨k1, k2⟩ := hM.rd hs hs' hr (fun c hc => hm.1 c (by simp [SV.sc, hc]))
      refine ⟨?_, by simp [SV.bt], by simp [SV.rt]⟩
      intro c hc
      simp only [SV.sc, List.mem_append] at hc
      exact hc.elim (k1 c) (Sh.map_good hM (fun c hc => hm.1 c (by simp [SV.sc, hc])) c)
    · simp [Ment, SV.sc, SV.bt, SV.rt]
  | .tup l, hm => by
    refine ⟨?_, by simp [SV.mapM, SV.bt], by simp [SV.mapM, SV.rt]⟩
    intro c hc
    simp only [SV.mapM, SV.sc, List.flatMap_map, List.mem_flatMap] at hc
    obtain ⟨v, hv, hc⟩ := hc
    exact Sh.map_good hM (fun c hc => hm.1 c (List.mem_flatMap.2 ⟨v, hv, hc⟩)) c hc
  | .g j w' true v, hm => by
    have := Ment.map (s := v) hM (by simpa [Ment, SV.sc, SV.bt, SV.rt] using hm)
    simpa [Ment, SV.mapM, SV.sc, SV.bt, SV.rt] using this
  | .g j w' false v, hm => by simp [Ment, SV.mapM, SV.sc, SV.bt, SV.rt]

theorem SOk.map (hM : MapOk w U G U' G' f fe fr) : ∀ {s : SV} {mv : Value}, SOk w G s mv → Ment U G s → SOk w G' (s.mapM f fe fr) mv
  | .no, _, _, _ => trivial
  | .d v, mv, ⟨cs, h1, h2⟩, hm => ⟨cs, h1, VOk.map hM h2 hm.1⟩
  | .box t v, mv, ⟨bk, c, el, h1, h2, h3, h4, h5, h6⟩, hm => by
    have hb := hm.2.1 t (by simp [SV.bt])
    have hx := hM.bx t hb.2.1 hb.2.2
    exact ⟨bk, c, el, h1, h2, (hM.hdr t hb.2.1).trans h3, hx.2 _ h4, h5, VOk.map hM h6 hm.1⟩
  | .ptr t o p τ, mv, ⟨bk, h1, h2, h3⟩, hm => by
    have hb := hm.2.1 t (by simp [SV.bt])
    exact ⟨bk, h1, (hM.hdr t hb.2.1).trans h2, h3⟩
  | .ept t e i o p τ, mv, ⟨b, off, n, cap, h1, h2, h3⟩, hm => by
    simp only [SV.mapM]
    split
    · have hb := hm.2.2 t (by simp [SV.rt])
      exact ⟨b, off, n, cap, h1, (hM.hdr t hb.2.1).trans h2, h3⟩
    · trivial
  | .rdp hs v, mv, ⟨b, o, c, el, fz, h1, h2, h3, h4, h5⟩, hm => by
    simp only [SV.mapM]
    split
    · rename_i hs' hr
      obtain ⟨k1, k2⟩ := hM.rd hs hs' hr (fun c hc => hm.1 c (by simp [SV.sc, hc]))
      exact ⟨b, o, c, el, fz, h1, h2, h3, k2 _ h4, VOk.map hM h5 (fun c hc => hm.1 c (by simp [SV.sc, hc]))⟩
    · trivial
  | .tup l, mv, ⟨vs, h1, h2, h3⟩, hm => by
    refine ⟨vs, h1, by simp [h2], fun i v hi => ?_⟩
    rw [List.getElem?_map, Option.map_eq_some_iff] at hi
    obtain ⟨v', hi', rfl⟩ := hi
    obtain ⟨u, cs, hu, hmv, hv⟩ := h3 i v' hi'
    exact ⟨u, cs, hu, hmv, VOk.map hM hv (fun c hc => hm.1 c (List.mem_flatMap.2 ⟨v', List.mem_of_getElem? hi', hc⟩))⟩
  | .g j w' false v, mv, ⟨h1, h2⟩, hm => ⟨fun e => absurd e (by simp), h2⟩
  | .g j w' true v, mv, ⟨h1, h2⟩, hm => ⟨fun e => ⟨by
      have := (h1 e).1
      cases v with
      | box t v => simp [SV.isBox] at this
      | ept t e i o p τ => simp only [SV.mapM]; split <;> rfl
      | rdp hs v => simp only [SV.mapM]; split <;> rfl
      | _ => rfl, SOk.map (s := v) hM (h1 e).2 (by simpa [Ment, SV.sc, SV.bt, SV.rt] using hm)⟩, h2⟩

theorem mapM_box {s : SV} {t : Nat} {u : TV} (h : s.mapM f fe fr = .box t u) : ∃ u', s = .box t u' := by
  cases s with
  | box t' v => simp only [SV.mapM, SV.box.injEq] at h; exact ⟨v, by rw [h.1]⟩
  | ept t' e i o p τ => simp only [SV.mapM] at h; split at h <;> cases h
  | rdp hs v => simp only [SV.mapM] at h; split at h <;> cases h
  | _ => simp [SV.mapM] at h

theorem getD_map {L : List SV} {T : SV → SV} (hT : T .no = .no) (s : Nat) : (L.map T).getD s .no = T (L.getD s .no) := by
  simp only [List.getD_eq_getElem?_getD, List.getElem?_map]
  cases L[s]? <;> simp [hT]

/-- All slots are told anew; memory stays. -/
theorem Inv.map (hI : Inv w0 c0 U E a w G) (hM : MapOk w U G U' G' f fe fr) (hcU : ∀ b, 0 < G'.col b → U' (G'.col b))
    (hcol : ∀ b, (0 < G'.col b → 0 < G.col b) ∧ (G.col b < 3 → G'.col b = G.col b) ∧ (G'.col b < 3 → G'.col b = G.col b)) :
    Inv w0 c0 U' { E with s := E.s.map (SV.mapM f fe fr) } a w G' := by
  have hg : ∀ s, ({ E with s := E.s.map (SV.mapM f fe fr) } : Env).s.getD s .no = (E.s.getD s .no).mapM f fe fr := fun s => getD_map (T := SV.mapM f fe fr) rfl s
  have hm : ∀ s, Ment U' G' ((E.s.getD s .no).mapM f fe fr) := fun s => Ment.map hM (hI.ment s)
  refine ⟨by simpa using hI.len, fun s => ?_, fun s => ?_, fun s => ?_, fun s => ?_, fun s s' t v v' h1 h2 => ?_, hcU, fun b hb => hI.lt b ((hcol b).1 hb), fun b hb => hI.fresh b ?_, fun b hb hc => ?_, fun b hb => hI.one b ?_, hI.size, hI.os, hI.tape, hI.output, hI.defers, ⟨hM.mono _ hI.two.1, hM.ru _ hI.two.1 hI.two.2⟩, fun hk t v e => ⟨hM.mono _ (hI.hk hk t v e).1, (hM.hdr t (hI.hk hk t v e).1).trans (hI.hk hk t v e).2⟩⟩
  · rw [hg]; exact SOk.map hM (hI.slots s) (hI.ment s)
  · rw [hg]; exact (hm s).1
  · rw [hg]; exact (hm s).2.1
  · rw [hg]; exact (hm s).2.2
  · rw [hg] at h1 h2
    obtain ⟨u, hu⟩ := mapM_box h1
    obtain ⟨u', hu'⟩ := mapM_box h2
    exact hI.uni s s' t u u' hu hu'
  · have h1 := (hcol b).2.1
    rcases Nat.lt_or_ge (G.col b) 3 with h | h
    · have := h1 h; omega
    · exact h
  · have h := hI.frame b hb hc
    exact ⟨by rw [(hcol b).2.1 (by rw [h.1]; exact hc)]; exact h.1, h.2⟩
  · have h1 := (hcol b).2.2
    rw [← h1 (by omega)]; exact hb

end

theorem meets_false {a b : List Nat} (h : meets a b = false) : ∀ c ∈ a, c ∉ b := by
  simp only [meets, List.any_eq_false, List.contains_eq_mem, decide_eq_true_eq] at h
  exact h

theorem kill_cols (ts : List Nat) (m : M) : ∀ c ∈ (m.kill ts).cols, c ∈ m.cols ∧ c ∉ ts := by
  intro c hc
  unfold M.kill at hc
  split at hc
  · simp [M.cols] at hc
  · rename_i hm
    exact ⟨hc, meets_false (by simpa using hm) c hc⟩

theorem kill_ok (ts : List Nat) : MapOk w U G U G (M.kill ts) (!ts.contains ·) (fun hs => if meets hs ts then none else some hs) where
  row e l v m h _ := by
    unfold M.kill
    split
    · exact h.one
    · exact h
  good m h c hc := h c (kill_cols ts m c hc).1
  rd hs hs' h hg := by
    split at h
    · cases h
    · cases h; exact ⟨hg, fun b hb => hb⟩
  hdr _ _ := rfl
  bx t _ hb := ⟨hb, fun _ h => h⟩
  ru _ _ h := h
  mono _ h := h

theorem Inv.kill (hI : Inv w0 c0 U E a w G) (ts : List Nat) : Inv w0 c0 U (E.kill ts) a w G := by
  unfold Env.kill
  split
  · exact hI
  · exact hI.map (kill_ok ts) hI.colU (fun b => ⟨fun h => h, fun _ => rfl, fun _ => rfl⟩)

theorem Sh.kill_cols {ts : List Nat} : ∀ (sh : Sh), ∀ c ∈ (sh.map (M.kill ts)).cols, c ∈ sh.cols ∧ c ∉ ts
  | .leaf, c, h => by simp [Sh.map, Sh.cols] at h
  | .sl m, c, h => Vg.kill_cols ts m c h
  | .pair a b, c, h => by
    simp only [Sh.map, Sh.cols, List.mem_append] at h ⊢
    rcases h with h | h
    · have := Sh.kill_cols a c h; exact ⟨.inl this.1, this.2⟩
    · have := Sh.kill_cols b c h; exact ⟨.inr this.1, this.2⟩

theorem SV.kill_sc {ts : List Nat} : ∀ (s : SV), ∀ c ∈ (s.kill ts).sc, c ∈ s.sc ∧ c ∉ ts
  | .no, c, h | .ptr .., c, h => by simp [SV.kill, SV.mapM, SV.sc] at h
  | .d v, c, h => Sh.kill_cols v.sh c h
  | .box t v, c, h => Sh.kill_cols v.sh c h
  | .ept t e i o p τ, c, h => by simp only [SV.kill, SV.mapM] at h; split at h <;> simp [SV.sc] at h
  | .rdp hs v, c, h => by
    simp only [SV.kill, SV.mapM] at h
    by_cases hm : meets hs ts = true
    · simp [hm, SV.sc] at h
    · simp only [hm, Bool.false_eq_true, if_false, SV.sc, List.mem_append] at h
      rcases h with h | h
      · exact ⟨by simp [SV.sc, h], meets_false (by simpa using hm) c h⟩
      · have := Sh.kill_cols v.sh c h; exact ⟨by simp [SV.sc, this.1], this.2⟩
  | .tup l, c, h => by
    simp only [SV.kill, SV.mapM, SV.sc, List.flatMap_map, List.mem_flatMap] at h
    obtain ⟨v, hv, hc⟩ := h
    have := Sh.kill_cols v.sh c hc
    exact ⟨List.mem_flatMap.2 ⟨v, hv, this.1⟩, this.2⟩
  | .g j w' true v, c, h => by
    have := SV.kill_sc (ts := ts) v c (by simpa [SV.kill, SV.mapM, SV.sc] using h)
    simpa [SV.sc] using this
  | .g j w' false v, c, h => by simp [SV.kill, SV.mapM, SV.sc] at h

theorem Env.kill_get (E : Env) (ts : List Nat) (s : Nat) : (E.kill ts).s.getD s .no = if ts.isEmpty then E.s.getD s .no else (E.s.getD s .no).kill ts := by
  unfold Env.kill
  split
  · rfl
  · exact getD_map (T := SV.kill ts) rfl s

theorem Env.kill_sc (E : Env) (ts : List Nat) (s : Nat) : ∀ c ∈ ((E.kill ts).s.getD s .no).sc, c ∈ (E.s.getD s .no).sc ∧ c ∉ ts := by
  intro c hc
  rw [Env.kill_get] at hc
  split at hc
  · rename_i he
    have : ts = [] := by simpa using he
    subst this
    exact ⟨hc, by simp⟩
  · exact SV.kill_sc _ c hc

/-- Colours handed over. -/
def Gh.give (G : Gh) (ts : List Nat) (t : Nat) (v : Value) : Gh :=
  ⟨fun b => if G.col b ∈ ts then t else G.col b, fun u => if u = t then v else G.hdr u, fun u => if u = t then false else G.bx u⟩

theorem mem_ren {ts : List Nat} {t c : Nat} {hs : List Nat} (h : c ∈ hs) : (if c ∈ ts then t else c) ∈ ren ts t hs := by
  unfold ren
  rw [List.mem_eraseDups, List.mem_map]
  exact ⟨c, h, by simp⟩

theorem of_ren {ts : List Nat} {t c : Nat} {hs : List Nat} (h : c ∈ ren ts t hs) : c = t ∨ (c ∈ hs ∧ c ∉ ts) := by
  unfold ren at h
  rw [List.mem_eraseDups, List.mem_map] at h
  obtain ⟨d, hd, rfl⟩ := h
  by_cases e : d ∈ ts
  · left; simp [e]
  · right; simp [e, hd]

theorem ren_nil {ts : List Nat} {t : Nat} {hs : List Nat} (h : ren ts t hs = []) : hs = [] := by
  cases hs with
  | nil => rfl
  | cons c l =>
    have := mem_ren (ts := ts) (t := t) (List.mem_cons_self (a := c) (l := l))
    rw [h] at this; simp at this

theorem give_ok {ts : List Nat} {t : Nat} {v : Value} (h3 : 3 ≤ t) (hts : ∀ c ∈ ts, 3 ≤ c ∧ Good U G c) (ht : U t → v = G.hdr t ∧ G.bx t = false) :
    MapOk w U G (fun u => U u ∨ u = t) (G.give ts t v) (M.give ts t) (!ts.contains ·) (fun hs => some (if meets hs ts then ren ts t hs else hs)) := by
  have hgood0 : ∀ c, Good U G c → Good (fun u => U u ∨ u = t) (G.give ts t v) c := by
    rintro c ⟨h1, h2, h4⟩
    refine ⟨h1, .inl h2, ?_⟩
    simp only [Gh.give]
    split
    · rfl
    · exact h4
  have hgood : ∀ c hs, (∀ c ∈ hs, Good U G c) → c ∈ ren ts t hs → Good (fun u => U u ∨ u = t) (G.give ts t v) c := by
    intro c hs hg hc
    rcases of_ren hc with rfl | ⟨hc, _⟩
    · exact ⟨by omega, .inr rfl, by simp [Gh.give]⟩
    · exact hgood0 c (hg c hc)
  have hcol : ∀ b hs, G.col b ∈ hs → (G.give ts t v).col b ∈ ren ts t hs := fun b hs h => mem_ren h
  have hsame : ∀ b hs, meets hs ts = false → G.col b ∈ hs → (G.give ts t v).col b = G.col b := fun b hs hm hb => by
    have := meets_false hm _ hb
    simp [Gh.give, this]
  refine ⟨fun e l u m h hg => ?_, fun m hg c hc => ?_, fun hs hs' h hg => ?_, fun u hu => ?_, fun u hu hb => ?_, fun u hu hb => ?_, fun u hu => .inl hu⟩
  · unfold M.give
    cases hm : meets m.cols ts with
    | false =>
      simp only [Bool.false_eq_true, if_false]
      refine RowOk.agree (w := w) (G := G) ⟨fun _ _ => rfl, fun b hb => hsame b _ hm hb, fun c hc => ?_⟩ h
      simp only [Gh.give]
      split
      · rename_i e; subst e; exact (ht (hg _ hc).2.1).1
      · rfl
    | true =>
      simp only [if_true]
      cases m with
      | row u' hs nd =>
        simp only [M.give0]
        split
        · rename_i hin
          obtain ⟨B, hB, hc⟩ := h.rep (by simp)
          exact ⟨⟨B, hB, fun b hb => hcol b _ (hc b hb)⟩, fun e => absurd (ren_nil e) (by simp)⟩
        · rename_i hin
          simp only [List.contains_eq_mem, decide_eq_true_eq] at hin
          obtain ⟨g1, g2, B, hB, hc⟩ := h
          refine ⟨g1, ?_, B, hB, fun b Bs he => ?_⟩
          · simp only [Gh.give]
            split
            · rename_i e; subst e
              rw [← g2]
              exact (ht (hg _ (by simp [M.cols])).2.1).1
            · exact g2
          · obtain ⟨k1, k2, k3, k4⟩ := hc b Bs he
            exact ⟨by simp only [Gh.give, k1]; simp [hin], k2, fun x hx => hcol x _ (k3 x hx), k4⟩
      | sha hs =>
        obtain ⟨⟨B, hB, hc⟩, hn⟩ := h
        exact ⟨⟨B, hB, fun b hb => hcol b _ (hc b hb)⟩, fun e => hn (ren_nil e)⟩
      | nst b E i o p fr =>
        obtain ⟨B, hB, hc⟩ := h.rep (by simp)
        exact ⟨⟨B, hB, fun b hb => hcol b _ (hc b hb)⟩, fun e => absurd (ren_nil e) (by simp)⟩
      | dead => exact h
  · unfold M.give at hc
    split at hc
    · cases m with
      | row u' hs nd =>
        simp only [M.give0] at hc
        split at hc
        · exact hgood c _ hg hc
        · rename_i hin
          simp only [M.cols, List.mem_cons] at hc
          rcases hc with rfl | hc
          · exact hgood0 c (hg c (by simp [M.cols]))
          · exact hgood c hs (fun c hc => hg c (by simp [M.cols, hc])) hc
      | sha hs => exact hgood c hs hg hc
      | nst b E i o p fr => exact hgood c [b] hg hc
      | dead => simp [M.give0, M.cols] at hc
    · exact hgood0 c (hg c hc)
  · simp only [Option.some.injEq] at h
    subst h
    split
    · exact ⟨fun c hc => hgood c hs hg hc, fun b hb => hcol b hs hb⟩
    · rename_i hm
      exact ⟨fun c hc => hgood0 c (hg c hc), fun b hb => by rw [hsame b hs (by simpa using hm) hb]; exact hb⟩
  · simp only [Gh.give]
    split
    · rename_i e; subst e; exact (ht hu).1
    · rfl
  · have hne : u ≠ t := by
      rintro rfl
      rw [(ht hu).2] at hb; cases hb
    refine ⟨by simp [Gh.give, hne, hb], fun b hbc => ?_⟩
    have : u ∉ ts := fun h => by rw [(hts u h).2.2.2] at hb; cases hb
    simp [Gh.give, hbc, this]
  · simp only [Gh.give]
    split
    · rfl
    · exact hb

theorem Inv.give (hI : Inv w0 c0 U E a w G) {ts : List Nat} {t : Nat} {v : Value} (h3 : 3 ≤ t) (hts : ∀ c ∈ ts, 3 ≤ c ∧ Good U G c) (ht : U t → v = G.hdr t ∧ G.bx t = false) :
    Inv w0 c0 (fun u => U u ∨ u = t) (E.give ts t) a w (G.give ts t v) := by
  have hc1 : ∀ b, 0 < (G.give ts t v).col b → (U ((G.give ts t v).col b) ∨ (G.give ts t v).col b = t) := by
    intro b hb
    simp only [Gh.give] at hb ⊢
    split
    · exact .inr rfl
    · rename_i h; rw [if_neg h] at hb; exact .inl (hI.colU b hb)
  have hc2 : ∀ b, (0 < (G.give ts t v).col b → 0 < G.col b) ∧ (G.col b < 3 → (G.give ts t v).col b = G.col b) ∧ ((G.give ts t v).col b < 3 → (G.give ts t v).col b = G.col b) := by
    intro b
    simp only [Gh.give]
    by_cases h : G.col b ∈ ts
    · have := (hts _ h).1
      simp only [h, if_true]; omega
    · simp [h]
  unfold Env.give
  split
  · rename_i he
    have : ts = [] := by simpa using he
    subst this
    have hM' := hI.map (f := M.give [] t) (give_ok (w := w) (v := v) h3 hts ht) hc1 hc2
    refine { hI.mono (U' := fun u => U u ∨ u = t) (fun c h => .inl h) with slots := fun s => ?_, sc := fun s c hc => ?_, bt := fun s c hc => ?_, rt := fun s c hc => ?_, colU := hc1, fresh := hM'.fresh, lt := hM'.lt, frame := hM'.frame, one := hM'.one, two := hM'.two, hk := hM'.hk }
    · refine SOk.agree (w := w) (G := G) ⟨fun _ _ => rfl, fun b hb => by simp [Gh.give], fun u hu => ?_⟩ (hI.slots s)
      have hU : U u := by
        simp only [List.mem_append] at hu
        rcases hu with (hu | hu) | hu
        · exact (hI.sc s u hu).2.1
        · exact (hI.bt s u hu).2.1
        · exact (hI.rt s u hu).2.1
      simp only [Gh.give]
      split
      · rename_i e; subst e; exact (ht hU).1
      · rfl
    · have := hI.sc s c hc
      refine ⟨this.1, .inl this.2.1, ?_⟩
      simp only [Gh.give]; split
      · rfl
      · exact this.2.2
    · have hb := hI.bt s c hc
      refine ⟨hb.1, .inl hb.2.1, ?_⟩
      simp only [Gh.give]; split
      · rename_i e; subst e
        have h := (ht hb.2.1).2
        rw [h] at hb; cases hb.2.2
      · exact hb.2.2
    · have := hI.rt s c hc
      refine ⟨this.1, .inl this.2.1, ?_⟩
      simp only [Gh.give]; split
      · rfl
      · exact this.2.2
  · exact hI.map (give_ok h3 hts ht) hc1 hc2

/-- Memory of told colours changes that nobody reads. -/
theorem Inv.change (hI : Inv w0 c0 U E a w G) {ts : List Nat} {U' : Nat → Prop} {w' : World} {G' : Gh}
    (hs : ∀ s, ∀ c ∈ (E.s.getD s .no).hc, c ∉ ts)
    (hag : ∀ b, 0 < G.col b → G.col b ∉ ts → w'.heap[b]? = w.heap[b]? ∧ G'.col b = G.col b)
    (hhdr : ∀ t, U t → G'.hdr t = G.hdr t ∧ G'.bx t = G.bx t) (hU : ∀ c, U c → U' c)
    (colU : ∀ b, 0 < G'.col b → U' (G'.col b)) (lt : ∀ b, 0 < G'.col b → b < w'.heap.size)
    (fresh : ∀ b, 3 ≤ G'.col b → ∃ c el, w'.heap[b]? = some (.cells c el (0, 0)))
    (frame : ∀ b, b < w0.heap.size → c0.col b < 3 → G'.col b = c0.col b ∧ w'.heap[b]? = w0.heap[b]?)
    (one : ∀ b, G'.col b = 1 → G.col b = 1) (size : w.heap.size ≤ w'.heap.size)
    (os : w'.os = w.os) (tape : w'.tape = w.tape) (output : w'.output = w.output) : Inv w0 c0 U' E a w' G' := by
  have hU' : ∀ s u, u ∈ (E.s.getD s .no).sc ++ (E.s.getD s .no).bt ++ (E.s.getD s .no).rt → U u := by
    intro s u hu
    simp only [List.mem_append] at hu
    rcases hu with (hu | hu) | hu
    · exact (hI.sc s u hu).2.1
    · exact (hI.bt s u hu).2.1
    · exact (hI.rt s u hu).2.1
  refine ⟨hI.len, fun s => ?_, fun s c hc => ?_, fun s c hc => ?_, fun s c hc => ?_, hI.uni, colU, lt, fresh, frame, fun b hb => hI.one b (one b hb), Nat.le_trans hI.size size, os.trans hI.os, tape.trans hI.tape, output.trans hI.output, hI.defers, ⟨hU _ hI.two.1, by rw [(hhdr 2 hI.two.1).2]; exact hI.two.2⟩, fun hk t v e => ⟨hU _ (hI.hk hk t v e).1, (hhdr t (hI.hk hk t v e).1).1.trans (hI.hk hk t v e).2⟩⟩
  · refine SOk.agree (w := w) (G := G) ⟨fun b hb => ?_, fun b hb => ?_, fun u hu => (hhdr u (hU' s u hu)).1⟩ (hI.slots s)
    · have : 0 < G.col b := by rcases SV.hc_sub _ _ hb with hb | hb; exact (hI.sc s _ hb).1; exact (hI.bt s _ hb).1
      exact (hag b this (hs s _ hb)).1
    · have : 0 < G.col b := by rcases SV.hc_sub _ _ hb with hb | hb; exact (hI.sc s _ hb).1; exact (hI.bt s _ hb).1
      exact (hag b this (hs s _ hb)).2
  · have := hI.sc s c hc; exact ⟨this.1, hU _ this.2.1, by rw [(hhdr c this.2.1).2]; exact this.2.2⟩
  · have := hI.bt s c hc; exact ⟨this.1, hU _ this.2.1, by rw [(hhdr c this.2.1).2]; exact this.2.2⟩
  · have := hI.rt s c hc; exact ⟨this.1, hU _ this.2.1, by rw [(hhdr c this.2.1).2]; exact this.2.2⟩

end
end Vg
