/- A small machine on abstract values: what a function over numbers, strings, structs and closures of its own computes, as a proposition that the kernel reckons; and that it is sound. No program is in sight here. -/
import Derived.Below
import Derived.Lib.Hide
import Derived.KernelRfl
import Derived.Deep.Quiet
import Derived.Laws.Sem
import Derived.Laws.Cells
import Derived.ChangeKeysEq
import Derived.IntWalk
import Derived.Laws.StructEq
import Derived.Great.BuildSlice
set_option linter.unusedVariables false
set_option linter.unusedSimpArgs false
namespace Go.Abs
open Go Go.RowKit
section
/-- Nothing but the value of a computation that does not look at the world. -/
def pureRun {α : Type} (P : Program) : Sem α → Option α
  | .pure a => some a
  | .program k => pureRun P (k P)
  | .mark _ k => pureRun P k
  | _ => none
theorem pureRun_run {α : Type} {P : Program} {s : Sem α} {a : α} (h : pureRun P s = some a) (w : World) : s.run P w = .ok a w := by
  induction s with
  | pure b => simp [pureRun] at h; subst h; rfl
  | program k ih => exact ih P (by simpa [pureRun] using h)
  | mark m k ih => exact ih (by simpa [pureRun] using h)
  | _ => simp [pureRun] at h

/-- An abstract value: a value; the address of a cell of the call's own blocks; a closure over such cells; anything. -/
inductive AV where
  | v (x : Value)
  | p (k off : Nat)
  | c (f : FuncId) (caps : List (Nat × Nat))
  | s (k off n c : Nat)
  | any

def Ext (ρ ρ' : Nat → Option Nat) : Prop := ∀ k n, ρ k = some n → ρ' k = some n
theorem Ext.refl (ρ : Nat → Option Nat) : Ext ρ ρ := fun _ _ h => h
theorem Ext.trans {a b c : Nat → Option Nat} (h : Ext a b) (k : Ext b c) : Ext a c := fun i n e => k i n (h i n e)
def ptrs (ρ : Nat → Option Nat) : List (Nat × Nat) → Option (List Value)
  | [] => some []
  | (k, o) :: l =>
    match ρ k, ptrs ρ l with
    | some b, some r => some (.pointer (some ⟨b, o, none⟩) :: r)
    | _, _ => none

def AV.R (ρ : Nat → Option Nat) : AV → Value → Prop
  | .v a, b => b = a
  | .p k o, b => ∃ n, ρ k = some n ∧ b = .pointer (some ⟨n, o, none⟩)
  | .c f caps, b => ∃ l, ptrs ρ caps = some l ∧ b = .func (.func f) #[] l.toArray
  | .s k o n d, b => ∃ m, ρ k = some m ∧ b = .slice (some ⟨m, o, none⟩) n d
  | .any, _ => True

theorem ptrs_mono {ρ ρ' : Nat → Option Nat} (h : Ext ρ ρ') : ∀ {l : List (Nat × Nat)} {r}, ptrs ρ l = some r → ptrs ρ' l = some r
  | [], _, e => e
  | (k, o) :: l, r, e => by
    simp only [ptrs] at e ⊢
    cases h1 : ρ k with
    | none => simp [h1] at e
    | some b =>
      cases h2 : ptrs ρ l with
      | none => simp [h1, h2] at e
      | some r' =>
        rw [ptrs_mono h h2, h k b h1]
        simp [h1, h2] at e
        simp [e]
theorem get_mono {ρ ρ' : Nat → Option Nat} (h : Ext ρ ρ') {k b : Nat} (h1 : ρ k = some b) : ρ' k = some b := h k b h1
theorem AV.R.mono {ρ ρ' : Nat → Option Nat} (h : Ext ρ ρ') {a : AV} {v : Value} (hr : a.R ρ v) : a.R ρ' v := by
  cases a with
  | v x => exact hr
  | p k o => obtain ⟨n, h1, h2⟩ := hr; exact ⟨n, get_mono h h1, h2⟩
  | c f caps => obtain ⟨l, h1, h2⟩ := hr; exact ⟨l, ptrs_mono h h1, h2⟩
  | s k o n d => obtain ⟨m, h1, h2⟩ := hr; exact ⟨m, get_mono h h1, h2⟩
  | any => trivial

/-- The n-th of a list, the last one's default being 'undef'. -/
def lget : List AV → Nat → AV
  | [], _ => .v undef
  | x :: _, 0 => x
  | _ :: l, n + 1 => lget l n
def lset : List AV → Nat → AV → List AV
  | [], _, _ => []
  | _ :: l, 0, y => y :: l
  | x :: l, n + 1, y => x :: lset l n y

/-- The slots of the frame read as the abstract ones. -/
def RT (ρ : Nat → Option Nat) (tm : List AV) (t : Array Value) : Prop := tm.length = t.size ∧ ∀ i, (lget tm i).R ρ (t.getD i undef)

theorem lset_length : ∀ (l : List AV) (n : Nat) (y : AV), (lset l n y).length = l.length
  | [], _, _ => rfl
  | _ :: l, 0, _ => rfl
  | _ :: l, n + 1, y => by simp [lset, lset_length l n y]
theorem lget_lset : ∀ (l : List AV) (n : Nat) (y : AV) (i : Nat), lget (lset l n y) i = if i = n ∧ n < l.length then y else lget l i
  | [], n, y, i => by simp [lset, lget]
  | x :: l, 0, y, i => by cases i <;> simp [lset, lget]
  | x :: l, n + 1, y, i => by
    cases i with
    | zero => simp [lset, lget]
    | succ i =>
      simp only [lset, lget, lget_lset l n y i, List.length_cons, Nat.add_right_cancel_iff]
      by_cases h : i = n ∧ n < l.length
      · rw [if_pos h, if_pos ⟨h.1, by omega⟩]
      · rw [if_neg h, if_neg (fun q => h ⟨q.1, by omega⟩)]
theorem lget_big : ∀ (l : List AV) (i : Nat), l.length ≤ i → lget l i = .v undef
  | [], _, _ => rfl
  | _ :: l, 0, h => by simp at h
  | _ :: l, i + 1, h => lget_big l i (by simpa using h)

theorem RT.set {ρ : Nat → Option Nat} {tm : List AV} {t : Array Value} (h : RT ρ tm t) (d : Nat) {a : AV} {v : Value} (hr : a.R ρ v) :
    RT ρ (lset tm d a) (t.setIfInBounds d v) := by
  refine ⟨by simp [lset_length, h.1], fun i => ?_⟩
  rw [lget_lset]
  have hi := h.2 i
  by_cases q : i = d ∧ d < tm.length
  · rw [if_pos q]
    have : d < t.size := by have := h.1; omega
    obtain ⟨rfl, _⟩ := q
    simpa [this] using hr
  · rw [if_neg q]
    by_cases e : i = d
    · have hb : ¬ d < t.size := by intro hh; exact q ⟨e, by rw [h.1]; exact hh⟩
      rw [show t.setIfInBounds d v = t from by simp [Array.setIfInBounds, hb]]
      exact hi
    · have : (t.setIfInBounds d v).getD i undef = t.getD i undef := by
        simp only [Array.getD_eq_getD_getElem?]
        rw [Array.getElem?_setIfInBounds_ne (Ne.symm e)]
      rw [this]
      exact hi
theorem RT.mono {ρ ρ' : Nat → Option Nat} (h : Ext ρ ρ') {tm : List AV} {t : Array Value} (hr : RT ρ tm t) : RT ρ' tm t := ⟨hr.1, fun i => (hr.2 i).mono h⟩

/-- The call's own blocks: an element type and cells. -/
structure Blk where
  T : TypeId
  cs : List AV

structure Rel (B : Nat) (w0 : World) (ρ : Nat → Option Nat) (H : Nat → Option Blk) (w : World) : Prop where
  below : Below B w0 w
  base : B ≤ w.heap.size
  dom : ∀ k, H k = none → ρ k = none
  inj : ∀ (i j b : Nat), ρ i = some b → ρ j = some b → i = j
  blk : ∀ (k b : Nat) (h : Blk), ρ k = some b → H k = some h → B ≤ b ∧ ∃ cs, w.heap[b]? = some (.cells cs h.T (0, 0)) ∧ cs.size = h.cs.length ∧ ∀ o, o < h.cs.length → (lget h.cs o).R ρ (cs.getD o undef)
  lies : ∀ (k : Nat) (h : Blk), H k = some h → ∃ n, ρ k = some n
/-- A list of blocks, as a function. -/
def hpF (hp : List Blk) : Nat → Option Blk := fun k => hp[k]?
def upd (H : Nat → Option Blk) (k : Nat) (b : Blk) : Nat → Option Blk := fun i => if i = k then some b else H i

/-- The state of a call: its slots and its own blocks. -/
structure AS where
  tm : List AV
  hp : List Blk

def ev (tm : List AV) : Operand → AV
  | .tmp t => lget tm t
  | .const v => .v v
  | .global g => .v (.pointer (some ⟨g, 0, none⟩))
  | .func f => .v (.func (.func f) #[] #[])
theorem ev_R {ρ : Nat → Option Nat} {tm : List AV} {a : Act} (h : RT ρ tm a.tmps) (x : Operand) : (ev tm x).R ρ (a.eval x) := by
  cases x with
  | tmp t => exact h.2 t
  | _ => rfl
/-- The operands' values, where they are values. -/
def evV (tm : List AV) (x : Operand) : Value := match ev tm x with | .v a => a | _ => undef
def isV : AV → Bool | .v _ => true | _ => false
theorem evV_eq {ρ : Nat → Option Nat} {tm : List AV} {a : Act} (h : RT ρ tm a.tmps) {x : Operand} (hx : isV (ev tm x) = true) : a.eval x = evV tm x := by
  have := ev_R h x
  unfold evV
  cases e : ev tm x with
  | v b => rw [e] at this; exact this
  | _ => simp [e, isV] at hx
def vals : List AV → Option (List Value)
  | [] => some []
  | .v x :: l => match vals l with | some r => some (x :: r) | none => none
  | _ :: _ => none
/-- Two ways. -/
def bcase (b : Bool) (p q : Prop) : Prop := match b with | true => p | false => q
theorem bcase_iff {b : Bool} {p q : Prop} : bcase b p q ↔ (b = true → p) ∧ (b = false → q) := by cases b <;> simp [bcase]
end
section
def bset : List Blk → Nat → Blk → List Blk
  | [], _, _ => []
  | _ :: l, 0, y => y :: l
  | x :: l, n + 1, y => x :: bset l n y
theorem bset_length : ∀ (l : List Blk) (n : Nat) (y : Blk), (bset l n y).length = l.length
  | [], _, _ => rfl
  | _ :: l, 0, _ => rfl
  | _ :: l, n + 1, y => by simp [bset, bset_length l n y]
theorem bset_get : ∀ (l : List Blk) (n : Nat) (y : Blk) (i : Nat), (bset l n y)[i]? = if i = n ∧ n < l.length then some y else l[i]?
  | [], n, y, i => by simp [bset]
  | x :: l, 0, y, i => by cases i <;> simp [bset]
  | x :: l, n + 1, y, i => by
    cases i with
    | zero => simp [bset]
    | succ i => simp [bset, bset_get l n y i]

variable {B : Nat} {w0 w : World} {ρ : Nat → Option Nat} {H : Nat → Option Blk}
theorem Rel.get (h : Rel B w0 ρ H w) {k n : Nat} (hk : ρ k = some n) : ∃ b, H k = some b := by
  cases e : H k with
  | none => rw [h.dom k e] at hk; cases hk
  | some b => exact ⟨b, rfl⟩
theorem Rel.cell (h : Rel B w0 ρ H w) {k n o : Nat} {b : Blk} (hk : ρ k = some n) (hb : H k = some b) (ho : o < b.cs.length) :
    ∃ v, w.cell? ⟨n, o, none⟩ = some v ∧ (lget b.cs o).R ρ v := by
  obtain ⟨_, cs, h1, h2, h3⟩ := h.blk k n b hk hb
  have := h3 o ho
  have hs : o < cs.size := by omega
  refine ⟨cs[o], ?_, ?_⟩
  · simp [World.cell?, h1, hs]
  · simpa [hs] using this
theorem Rel.frozen (h : Rel B w0 ρ H w) {k n o : Nat} {b : Blk} (hk : ρ k = some n) (hb : H k = some b) : w.frozen? ⟨n, o, none⟩ = false := by
  obtain ⟨_, cs, h1, h2, h3⟩ := h.blk k n b hk hb
  simp [World.frozen?, h1]
theorem Rel.lt (h : Rel B w0 ρ H w) {k n : Nat} (hk : ρ k = some n) : n < w.heap.size := by
  obtain ⟨b, hb⟩ := h.get hk
  obtain ⟨_, cs, h1, _⟩ := h.blk k n b hk hb
  rcases Nat.lt_or_ge n w.heap.size with q | q
  · exact q
  · simp [Array.getElem?_eq_none q] at h1
/-- A later world in which all blocks still stand. -/
theorem Rel.later (h : Rel B w0 ρ H w) {w' : World} (hb : Below w.heap.size w w') : Rel B w0 ρ H w' := by
  refine ⟨h.below.trans (hb.mono h.base), Nat.le_trans h.base hb.size, h.dom, h.inj, fun k b x hk hx => ?_, h.lies⟩
  obtain ⟨h0, cs, h1, h2, h3⟩ := h.blk k b x hk hx
  exact ⟨h0, cs, by rw [hb.block b (h.lt hk)]; exact h1, h2, h3⟩
theorem Rel.drawn (h : Rel B w0 ρ H w) (n : Nat) : Rel B w0 ρ H { w with drawn := n } :=
  h.later ⟨rfl, rfl, rfl, Nat.le_refl _, fun _ _ => rfl⟩
def rnew (ρ : Nat → Option Nat) (k n : Nat) : Nat → Option Nat := fun i => if i = k then some n else ρ i
theorem Ext.new {k : Nat} (h : ρ k = none) (n : Nat) : Ext ρ (rnew ρ k n) := fun i m e => by
  unfold rnew
  by_cases q : i = k
  · subst q; rw [h] at e; cases e
  · rw [if_neg q]; exact e
/-- A new block. -/
theorem Rel.new (h : Rel B w0 ρ H w) {k : Nat} (hk : H k = none) {T : TypeId} {cs : Array Value} {as : List AV} (hs : cs.size = as.length)
    (hr : ∀ o, o < as.length → (lget as o).R ρ (cs.getD o undef)) :
    Rel B w0 (rnew ρ k w.heap.size) (upd H k ⟨T, as⟩) (w.alloc (.cells cs T (0, 0))) := by
  have hp' : Ext ρ (rnew ρ k w.heap.size) := Ext.new (h.dom k hk) _
  have hsz : (w.alloc (.cells cs T (0, 0))).heap.size = w.heap.size + 1 := by show (w.heap.push _).size = _; simp
  refine ⟨h.below.alloc h.base _, by have := h.base; omega, fun i hi => ?_, fun i j b hi hj => ?_, fun i b x hi hx => ?_, fun i x hx => ?_⟩
  · unfold upd at hi
    unfold rnew
    by_cases q : i = k
    · rw [if_pos q] at hi; cases hi
    · rw [if_neg q] at hi ⊢; exact h.dom i hi
  · unfold rnew at hi hj
    by_cases q : i = k <;> by_cases r : j = k
    · rw [q, r]
    · rw [if_pos q] at hi; rw [if_neg r] at hj; cases hi; exact absurd (h.lt hj) (by omega)
    · rw [if_neg q] at hi; rw [if_pos r] at hj; cases hj; exact absurd (h.lt hi) (by omega)
    · rw [if_neg q] at hi; rw [if_neg r] at hj; exact h.inj i j b hi hj
  · have hi0 := hi
    unfold rnew at hi
    unfold upd at hx
    by_cases q : i = k
    · rw [if_pos q] at hi hx
      cases hi; cases hx
      exact ⟨h.base, cs, by show (w.heap.push _)[w.heap.size]? = _; simp, hs, fun o ho => (hr o ho).mono hp'⟩
    · rw [if_neg q] at hi hx
      obtain ⟨h0, cs', h1, h2, h3⟩ := h.blk i b x hi hx
      refine ⟨h0, cs', ?_, h2, fun o ho => (h3 o ho).mono hp'⟩
      rw [Below.heap_alloc _ _ _ (h.lt hi)]
      exact h1
  · unfold upd at hx
    unfold rnew
    by_cases q : i = k
    · exact ⟨_, if_pos q⟩
    · rw [if_neg q] at hx ⊢; exact h.lies i x hx
/-- A store into one cell. -/
theorem Rel.put (h : Rel B w0 ρ H w) {k n o : Nat} {b : Blk} (hk : ρ k = some n) (hb : H k = some b) (ho : o < b.cs.length) {a : AV} {v : Value} (hr : a.R ρ v) :
    Rel B w0 ρ (upd H k ⟨b.T, lset b.cs o a⟩) (w.setCell ⟨n, o, none⟩ v) := by
  obtain ⟨h0, cs, h1, h2, h3⟩ := h.blk k n b hk hb
  refine ⟨h.below.setCell (p := ⟨n, o, none⟩) h0 v, by simpa [World.setCell] using h.base, fun i hi => ?_, h.inj, fun k' n' x hk' hx => ?_, fun i x hx => ?_⟩
  · unfold upd at hi
    by_cases q : i = k
    · rw [if_pos q] at hi; cases hi
    · rw [if_neg q] at hi; exact h.dom i hi
  · unfold upd at hx
    by_cases q : k' = k
    · subst q
      rw [if_pos rfl] at hx
      cases hx
      rw [hk] at hk'
      cases hk'
      refine ⟨h0, cs.setIfInBounds o v, ?_, by simp [lset_length, h2], fun i hi => ?_⟩
      · have hn := h.lt hk
        simp only [World.setCell, Array.getElem?_modify, h1]
        simp
      · simp only [lset_length] at hi
        rw [lget_lset]
        have := h3 i hi
        by_cases e : i = o
        · subst e
          rw [if_pos ⟨rfl, hi⟩]
          have : i < cs.size := by omega
          simpa [this] using hr
        · rw [if_neg (fun q => e q.1)]
          have e2 : (cs.setIfInBounds o v).getD i undef = cs.getD i undef := by
            simp only [Array.getD_eq_getD_getElem?]
            rw [Array.getElem?_setIfInBounds_ne (Ne.symm e)]
          rw [e2]
          exact this
    · rw [if_neg q] at hx
      obtain ⟨h0', cs', h1', h2', h3'⟩ := h.blk k' n' x hk' hx
      refine ⟨h0', cs', ?_, h2', h3'⟩
      have : n' ≠ n := fun e => q (h.inj k' k n (e ▸ hk') hk)
      rw [Below.heap_setCell _ _ _ _ this]
      exact h1'
  · unfold upd at hx
    by_cases q : i = k
    · subst q; exact ⟨n, hk⟩
    · rw [if_neg q] at hx; exact h.lies i x hx
theorem hpF_bset (hp : List Blk) {k : Nat} {b : Blk} (hb : hp[k]? = some b) (y : Blk) : hpF (bset hp k y) = upd (hpF hp) k y := by
  funext i
  have hlt : k < hp.length := (List.getElem?_eq_some_iff.1 hb).1
  unfold hpF upd
  rw [bset_get]
  by_cases q : i = k
  · rw [if_pos ⟨q, hlt⟩, if_pos q]
  · rw [if_neg (fun e => q e.1), if_neg q]
theorem hpF_new (hp : List Blk) (y : Blk) : hpF (hp ++ [y]) = upd (hpF hp) hp.length y := by
  funext i
  unfold hpF upd
  by_cases q : i = hp.length
  · subst q; simp
  · rw [if_neg q]
    rcases Nat.lt_or_ge i hp.length with r | r
    · show (hp ++ [y])[i]? = hp[i]?
      rw [List.getElem?_append_left r]
    · show (hp ++ [y])[i]? = hp[i]?
      rw [List.getElem?_eq_none (by simp; omega), List.getElem?_eq_none r]
theorem hpF_none (hp : List Blk) : hpF hp hp.length = none := by simp [hpF]
end
section
variable {P : Program} {B : Nat} {w0 w : World} {ρ : Nat → Option Nat} {hp : List Blk}

theorem vals_some : ∀ {l : List AV} {r : List Value}, vals l = some r → r.length = l.length ∧ ∀ i, i < l.length → lget l i = .v (r.getD i undef)
  | [], r, h => by simp [vals] at h; subst h; simp
  | a :: l, r, h => by
    cases a with
    | v x =>
      simp only [vals] at h
      cases e : vals l with
      | none => simp [e] at h
      | some r' =>
        simp [e] at h
        subst h
        obtain ⟨h1, h2⟩ := vals_some e
        refine ⟨by simp [h1], fun i hi => ?_⟩
        cases i with
        | zero => rfl
        | succ i => simpa [lget] using h2 i (by simpa using hi)
    | _ => simp [vals] at h
theorem lget_drop : ∀ (l : List AV) (o i : Nat), lget (l.drop o) i = lget l (o + i)
  | [], o, i => by simp [lget]
  | _ :: l, 0, i => by simp
  | x :: l, o + 1, i => by rw [show o + 1 + i = (o + i) + 1 by omega]; simpa [lget] using lget_drop l o i
theorem lget_take : ∀ (l : List AV) (n i : Nat), i < n → lget (l.take n) i = lget l i
  | [], n, i, _ => by simp [lget]
  | _ :: l, 0, i, h => by omega
  | x :: l, n + 1, 0, _ => rfl
  | x :: l, n + 1, i + 1, h => by simpa [lget] using lget_take l n i (by omega)

theorem addr_add (n o j : Nat) : (⟨n, o, none⟩ : Addr).add j = ⟨n, o + j, none⟩ := by
  unfold Addr.add
  by_cases h : j = 0
  · subst h; rfl
  · rw [if_neg h]
def isAggD : TypeDesc → Bool
  | .struct _ | .array _ _ => true
  | _ => false
/-- A load of a value of type t at cell 'o' of a block. -/
def loadB (P : Program) (b : Blk) (t : TypeId) (o : Nat) : Option AV :=
  match P.underlying t with
  | some d =>
    bif isAggD d then
      match P.info? t with
      | some i => bif Nat.ble (o + i.size) b.cs.length then (match vals ((b.cs.drop o).take i.size) with | some l => some (.v (.agg l.toArray)) | none => none) else none
      | none => none
    else bif Nat.blt o b.cs.length then some (lget b.cs o) else none
  | none => none
def loadX (P : Program) (hp : List Blk) (t : TypeId) (k o : Nat) : Option AV :=
  match hp[k]? with
  | some b => loadB P b t o
  | none => none
theorem run_underlying' {t : TypeId} {d : TypeDesc} (h : P.underlying t = some d) (w : World) : (underlying t).run P w = .ok d w := run_underlying h w
theorem run_isAggD {t : TypeId} {d : TypeDesc} (h : P.underlying t = some d) (w : World) : (isAgg t).run P w = .ok (isAggD d) w := by
  unfold isAgg
  simp only [Sem.run_bind, run_underlying h, Result.andThen_ok]
  cases d <;> rfl
theorem loadB_run {H : Nat → Option Blk} (h : Rel B w0 ρ H w) {t : TypeId} {k o n : Nat} {a : AV} {b : Blk} (hk : ρ k = some n) (hb : H k = some b) (hl : loadB P b t o = some a) :
    ∃ v, (loadVar t ⟨n, o, none⟩).run P w = .ok v w ∧ a.R ρ v := by
  unfold loadB at hl
  cases hu : P.underlying t with
  | none => simp [hu] at hl
  | some d =>
    simp only [hu] at hl
    unfold loadVar
    simp only [Sem.run_bind, run_isAggD hu, Result.andThen_ok]
    cases hd : isAggD d with
    | true =>
      simp only [hd, cond_true] at hl
      cases hi : P.info? t with
      | none => simp [hi] at hl
      | some i =>
        simp only [hi] at hl
        cases hs : Nat.ble (o + i.size) b.cs.length with
        | false => simp [hs] at hl
        | true =>
          simp only [hs, cond_true] at hl
          have hs' := Nat.le_of_ble_eq_true hs
          cases hv : vals ((b.cs.drop o).take i.size) with
          | none => simp [hv] at hl
          | some l =>
            simp only [hv, Option.some.injEq] at hl
            subst hl
            obtain ⟨h1, h2⟩ := vals_some hv
            have hlen : l.length = i.size := by rw [h1]; simp; omega
            have hz : (sizeOf t).run P w = .ok i.size w := by
              unfold sizeOf
              simp only [Sem.run_bind, run_typeInfo w hi, Result.andThen_ok]
              rfl
            have hc := run_loadCells_list (P := P) w ⟨n, o, none⟩ l (fun j v hj => by
              have hj' := (List.getElem?_eq_some_iff.1 hj).1
              have e1 := h2 j (by rw [← h1]; exact hj')
              rw [lget_take _ _ _ (by omega), lget_drop] at e1
              obtain ⟨v', hv1, hv2⟩ := h.cell hk hb (o := o + j) (by omega)
              rw [e1] at hv2
              have : v' = l.getD j undef := hv2
              rw [show l.getD j undef = v from by simp [List.getD, hj]] at this
              subst this
              have ha : (⟨n, o, none⟩ : Addr).add j = ⟨n, o + j, none⟩ := addr_add n o j
              rw [ha, hv1])
            rw [hlen] at hc
            simp only [if_true, Sem.run_bind, hz, Result.andThen_ok, hc]
            exact ⟨_, rfl, rfl⟩
    | false =>
      simp only [hd, cond_false] at hl
      cases hs : Nat.blt o b.cs.length with
      | false => simp [hs] at hl
      | true =>
        simp only [hs, cond_true, Option.some.injEq] at hl
        subst hl
        have hs' : o < b.cs.length := Nat.le_of_ble_eq_true hs
        obtain ⟨v, hv1, hv2⟩ := h.cell hk hb hs'
        refine ⟨v, ?_, hv2⟩
        simp only [Bool.false_eq_true, if_false]
        rw [run_load, hv1]
theorem loadX_run (h : Rel B w0 ρ (hpF hp) w) {t : TypeId} {k o n : Nat} {a : AV} (hk : ρ k = some n) (hl : loadX P hp t k o = some a) :
    ∃ v, (loadVar t ⟨n, o, none⟩).run P w = .ok v w ∧ a.R ρ v := by
  unfold loadX at hl
  cases hb : hp[k]? with
  | none => simp [hb] at hl
  | some b => simp only [hb] at hl; exact loadB_run h hk hb hl

/-- The cells that a value takes. -/
def cellsOf : AV → Option (List AV)
  | .v x => some (x.cells.toList.map .v)
  | .p k o => some [.p k o]
  | .c f l => some [.c f l]
  | .s k o n c => some [.s k o n c]
  | .any => none
theorem lget_map (l : List Value) : ∀ i, i < l.length → lget (l.map .v) i = .v (l.getD i undef) := by
  induction l with
  | nil => intro i h; simp at h
  | cons x l ih =>
    intro i h
    cases i with
    | zero => rfl
    | succ i => simpa [lget] using ih i (by simpa using h)
theorem cellsOf_R {a : AV} {l : List AV} {v : Value} (h : cellsOf a = some l) (hr : a.R ρ v) :
    v.cells.size = l.length ∧ ∀ i, i < l.length → (lget l i).R ρ (v.cells.getD i undef) := by
  cases a with
  | v x =>
    simp [cellsOf] at h
    subst h
    have hr : v = x := hr
    subst hr
    refine ⟨by simp, fun i hi => ?_⟩
    rw [lget_map _ _ (by simpa using hi)]
    show _ = _
    simp [List.getD, Array.getD_eq_getD_getElem?]
  | p k o =>
    simp [cellsOf] at h
    subst h
    have hr' := hr
    obtain ⟨n, _, rfl⟩ := hr'
    refine ⟨rfl, fun i hi => ?_⟩
    obtain rfl : i = 0 := by simpa using hi
    exact hr
  | c f q =>
    simp [cellsOf] at h
    subst h
    have hr' := hr
    obtain ⟨n, _, rfl⟩ := hr'
    refine ⟨rfl, fun i hi => ?_⟩
    obtain rfl : i = 0 := by simpa using hi
    exact hr
  | s k o n c =>
    simp [cellsOf] at h
    subst h
    have hr' := hr
    obtain ⟨m, _, rfl⟩ := hr'
    refine ⟨rfl, fun i hi => ?_⟩
    obtain rfl : i = 0 := by simpa using hi
    exact hr
  | any => simp [cellsOf] at h
def oneC : AV → Bool
  | .v (.agg _) | .v (.tuple _) | .any => false
  | _ => true
theorem oneC_R {a : AV} {v : Value} (h : oneC a = true) (hr : a.R ρ v) : (∀ c, v ≠ .agg c) ∧ (∀ c, v ≠ .tuple c) := by
  cases a with
  | v x => have hr : v = x := hr; subst hr; cases v <;> simp_all [oneC]
  | p k o => obtain ⟨n, _, rfl⟩ := hr; simp
  | c f q => obtain ⟨n, _, rfl⟩ := hr; simp
  | s k o n c => obtain ⟨m, _, rfl⟩ := hr; simp
  | any => simp [oneC] at h
def lsets : List AV → Nat → List AV → List AV
  | cs, _, [] => cs
  | cs, o, a :: l => lsets (lset cs o a) (o + 1) l
/-- A store into the cells from 'o' on of a block. -/
def storeB (P : Program) (b : Blk) (t : TypeId) (o : Nat) (a : AV) : Option Blk :=
  match cellsOf a, P.info? t with
  | some l, some i => bif (Nat.beq l.length i.size && Nat.ble (o + l.length) b.cs.length && l.all oneC) then some ⟨b.T, lsets b.cs o l⟩ else none
  | _, _ => none
def storeX (P : Program) (hp : List Blk) (t : TypeId) (k o : Nat) (a : AV) : Option (List Blk) :=
  match hp[k]? with
  | some b => match storeB P b t o a with | some y => some (bset hp k y) | none => none
  | none => none
theorem bset_bset : ∀ (l : List Blk) (n : Nat) (x y : Blk), bset (bset l n x) n y = bset l n y
  | [], _, _, _ => rfl
  | _ :: l, 0, _, _ => rfl
  | _ :: l, n + 1, x, y => by simp [bset, bset_bset l n x y]
theorem bset_self : ∀ (l : List Blk) (n : Nat) (x : Blk), l[n]? = some x → bset l n x = l
  | [], _, _, _ => rfl
  | _ :: l, 0, _, h => by simp at h; simp [bset, h]
  | _ :: l, n + 1, x, h => by simp at h; simp [bset, bset_self l n x h]
theorem run_store_cell (a : Addr) (v u : Value) (w : World) (hc : w.cell? a = some u) (hf : w.frozen? a = false) (h1 : (∀ c, v ≠ .agg c) ∧ (∀ c, v ≠ .tuple c)) :
    (store a v).run P w = .ok () (w.setCell a v) := by
  unfold store
  cases v <;> simp_all [Sem.run]
theorem upd_upd (H : Nat → Option Blk) (k : Nat) (x y : Blk) : upd (upd H k x) k y = upd H k y := by
  funext i
  unfold upd
  split <;> rfl
theorem upd_self {H : Nat → Option Blk} {k : Nat} {x : Blk} (h : H k = some x) : upd H k x = H := by
  funext i
  unfold upd
  split
  · rename_i e; rw [e, h]
  · rfl
theorem storeCells_run {k n : Nat} (hk : ρ k = some n) : ∀ (vs : List Value) (as : List AV) (o i : Nat) {H : Nat → Option Blk} {w : World} (b : Blk), Rel B w0 ρ H w → H k = some b →
    vs.length = as.length → (∀ j, j < as.length → (lget as j).R ρ (vs.getD j undef)) → as.all oneC = true → o + i + as.length ≤ b.cs.length →
    ∃ w', (storeCells ⟨n, o, none⟩ vs i).run P w = .ok () w' ∧ Rel B w0 ρ (upd H k ⟨b.T, lsets b.cs (o + i) as⟩) w'
  | [], as, o, i, H, w, b, h, hb, hl, hr, h1, hs => by
    obtain rfl : as = [] := by cases as <;> simp_all
    refine ⟨w, rfl, ?_⟩
    simp only [lsets]
    rw [show (⟨b.T, b.cs⟩ : Blk) = b from rfl, upd_self hb]
    exact h
  | v :: vs, [], o, i, H, w, b, h, hb, hl, hr, h1, hs => by simp at hl
  | v :: vs, a :: as, o, i, H, w, b, h, hb, hl, hr, h1, hs => by
    have ha : (⟨n, o, none⟩ : Addr).add i = ⟨n, o + i, none⟩ := addr_add n o i
    have hlen : o + i < b.cs.length := by simp at hs; omega
    have r0 := hr 0 (by simp)
    simp only [lget, List.getD_cons_zero] at r0
    simp only [List.all_cons, Bool.and_eq_true] at h1
    obtain ⟨u, hu, _⟩ := h.cell hk hb hlen
    have hst := run_store_cell (P := P) ⟨n, o + i, none⟩ v u w hu (h.frozen hk hb) (oneC_R h1.1 r0)
    have hput := h.put hk hb hlen r0
    obtain ⟨w', hw', hR⟩ := storeCells_run hk vs as o (i + 1) ⟨b.T, lset b.cs (o + i) a⟩ hput (by unfold upd; rw [if_pos rfl]) (by simpa using hl)
      (fun j hj => by simpa [lget] using hr (j + 1) (by simpa using hj)) h1.2 (by simp [lset_length] at hs ⊢; omega)
    refine ⟨w', ?_, ?_⟩
    · simp only [storeCells, Sem.run_bind, ha, hst, Result.andThen_ok, hw']
    · rw [upd_upd] at hR
      simpa [lsets, Nat.add_assoc] using hR
theorem storeB_run {H : Nat → Option Blk} (h : Rel B w0 ρ H w) {t : TypeId} {k o n : Nat} {a : AV} {v : Value} {b y : Blk} (hk : ρ k = some n) (hb : H k = some b) (hr : a.R ρ v) (hl : storeB P b t o a = some y) :
    ∃ w', (storeVar t ⟨n, o, none⟩ v).run P w = .ok () w' ∧ Rel B w0 ρ (upd H k y) w' := by
  unfold storeB at hl
  cases hc : cellsOf a with
  | none => simp [hc] at hl
  | some l =>
    cases hi : P.info? t with
    | none => simp [hc, hi] at hl
    | some i =>
      simp only [hc, hi] at hl
      cases hs : (Nat.beq l.length i.size && Nat.ble (o + l.length) b.cs.length && l.all oneC) with
      | false => simp [hs] at hl
      | true =>
        simp only [hs, cond_true, Option.some.injEq] at hl
        subst hl
        simp only [Bool.and_eq_true] at hs
        obtain ⟨⟨e1, e2⟩, e3⟩ := hs
        have e1 := Nat.eq_of_beq_eq_true e1
        have e2 := Nat.le_of_ble_eq_true e2
        obtain ⟨c1, c2⟩ := cellsOf_R hc hr
        have hz : (sizeOf t).run P w = .ok i.size w := by
          unfold sizeOf
          simp only [Sem.run_bind, run_typeInfo w hi, Result.andThen_ok]
          rfl
        obtain ⟨w', hw', hR⟩ := storeCells_run (P := P) hk v.cells.toList l o 0 b h hb (by simpa using c1) (fun j hj => by have := c2 j hj; simpa [List.getD, Array.getD_eq_getD_getElem?] using this) e3 (by simpa using e2)
        refine ⟨w', ?_, by simpa using hR⟩
        unfold storeVar
        simp only [Sem.run_bind, hz, Result.andThen_ok]
        rw [if_neg (by rw [c1, e1]; simp)]
        simpa using hw'
theorem storeX_run (h : Rel B w0 ρ (hpF hp) w) {t : TypeId} {k o n : Nat} {a : AV} {v : Value} {hp' : List Blk} (hk : ρ k = some n) (hr : a.R ρ v) (hl : storeX P hp t k o a = some hp') :
    ∃ w', (storeVar t ⟨n, o, none⟩ v).run P w = .ok () w' ∧ Rel B w0 ρ (hpF hp') w' := by
  unfold storeX at hl
  cases hb : hp[k]? with
  | none => simp [hb] at hl
  | some b =>
    simp only [hb] at hl
    cases hy : storeB P b t o a with
    | none => simp [hy] at hl
    | some y =>
      simp only [hy, Option.some.injEq] at hl
      subst hl
      rw [hpF_bset hp hb]
      exact storeB_run h hk hb hr hy
end
section
variable {P : Program} {B : Nat} {w0 w : World} {ρ : Nat → Option Nat} {hp : List Blk}

/-- What a function answers: under a premise, a value. -/
abbrev FSpec := List Value → Option (Prop × Value)
def spec (Γ : List (FuncId × FSpec)) (f : FuncId) : Option FSpec :=
  match Γ with
  | [] => none
  | (g, s) :: l => bif Nat.beq g f then some s else spec l f
/-- A function answers so in every world of the class, and writes new blocks alone. -/
def Ans (P : Program) (Φ : World → Prop) (f : FuncId) (args : List Value) (v : Value) : Prop :=
  ∀ w, Φ w → Calls P f args.toArray w fun e w' => e = .returned v ∧ Below w.heap.size w w'
def Sound (P : Program) (Φ : World → Prop) (Γ : List (FuncId × FSpec)) : Prop :=
  ∀ f s, spec Γ f = some s → (∃ fn, P.funcs[f]? = some fn ∧ (fn.name == "runtime.NumGoroutine") = false ∧ fn.body.isSome = true) ∧ ∀ args p v, s args = some (p, v) → p → Ans P Φ f args v
abbrev Inl := FuncId → List AV → List Blk → (AV → List Blk → Prop) → Prop

def gen (P : Program) (o : Oper) (st : AS) (K : AV → List Blk → Prop) : Prop :=
  bif o.op.operands.toList.all (fun x => isV (ev st.tm x)) then
    match pureRun P (execOp (evV st.tm) o) with
    | some (.value v) => K (.v v) st.hp
    | _ => False
  else False
def fieldX (P : Program) (s : TypeId) (f : Nat) : Option Nat :=
  match P.underlying s with
  | some (.struct fields) =>
    match fields[f]? with
    | some d => match P.info? d.type with | some i => bif Nat.beq i.size 0 then none else some d.offset | none => none
    | none => none
  | _ => none
def ptrsOf : List AV → Option (List (Nat × Nat))
  | [] => some []
  | .p k o :: l => match ptrsOf l with | some r => some ((k, o) :: r) | none => none
  | _ :: _ => none
def callX (Γ : List (FuncId × FSpec)) (inl : Inl) (g : FuncId) (args : List AV) (hp : List Blk) (K : AV → List Blk → Prop) : Prop :=
  match spec Γ g with
  | some s =>
    match vals args with
    | some l => match s l with | some (p, v) => p ∧ K (.v v) hp | none => False
    | none => False
  | none => inl g args hp K
def andI (k : IntKind) (a b : Int) : Int := k.wrap ((BitVec.ofInt k.bits a &&& BitVec.ofInt k.bits b).toNat : Nat)
def orI (k : IntKind) (a b : Int) : Int := k.wrap ((BitVec.ofInt k.bits a ||| BitVec.ofInt k.bits b).toNat : Nat)
def tooLong (a b : ByteArray) : Bool := decide (((a.size + b.size : Nat) : Int) > IntKind.i64.max)
/-- Are two values of a type of bools, integers, strings and structs of these equal? -/
def eqFs (P : Program) (rec : TypeId → Value → Value → Option Bool) (xs ys : Array Value) : List Field → Option Bool
  | [] => some true
  | f :: fs =>
    bif f.name == "_" then eqFs P rec xs ys fs else
    match pureRun P (part f.type xs f.offset), pureRun P (part f.type ys f.offset) with
    | some a, some b => (match rec f.type a b with | some r => (match eqFs P rec xs ys fs with | some q => some (r && q) | none => none) | none => none)
    | _, _ => none
def eqV (P : Program) : Nat → TypeId → Value → Value → Option Bool
  | 0, _, _, _ => none
  | d + 1, t, x, y =>
    match P.underlying t with
    | some .bool => (match x, y with | .bool a, .bool b => some (a == b) | _, _ => none)
    | some (.int _) => (match x, y with | .int k a, .int k' b => bif decide (k = k') then some (a == b) else none | _, _ => none)
    | some .string => (match x, y with | .string a, .string b => some (a.toList == b.toList) | _, _ => none)
    | some (.struct fs) => (match x, y with | .agg xs, .agg ys => bif P.stoodInHeld t then none else eqFs P (eqV P d) xs ys fs.toList | _, _ => none)
    | _ => none
theorem eqFs_run {d e : Nat} (ih : ∀ t x y b, eqV P d t x y = some b → ∀ w, (Op.equalIn (e + d) t x y).run P w = .ok b w) (xs ys : Array Value) : ∀ (fs : List Field) (b : Bool), eqFs P (eqV P d) xs ys fs = some b → ∀ w, (Op.eqFields (e + d) xs ys fs).run P w = .ok b w
  | [], b, h, w => by simp [eqFs] at h; subst h; rfl
  | f :: fs, b, h, w => by
    simp only [eqFs] at h
    cases hn : (f.name == "_") with
    | true =>
      simp only [hn, cond_true] at h
      have : f.name = "_" := by simpa using hn
      simp only [Op.eqFields, this, ne_eq, not_true_eq_false, if_false]
      exact eqFs_run ih xs ys fs b h w
    | false =>
      simp only [hn, cond_false] at h
      have hne : f.name ≠ "_" := by simpa using hn
      split at h
      · rename_i x y hx hy
        split at h
        · rename_i r hr
          split at h
          · rename_i q hq
            cases h
            simp only [Op.eqFields, hne, ne_eq, not_false_eq_true, if_true, Sem.run_bind, pureRun_run hx, pureRun_run hy, Result.andThen_ok, ih _ _ _ _ hr w]
            cases r
            · rfl
            · simpa using eqFs_run ih xs ys fs q hq w
          · cases h
        · cases h
      · cases h
theorem eqV_run (e : Nat) : ∀ (d : Nat) (t : TypeId) (x y : Value) (b : Bool), eqV P d t x y = some b → ∀ w, (Op.equalIn (e + d) t x y).run P w = .ok b w
  | 0, _, _, _, _, h, _ => by cases h
  | d + 1, t, x, y, b, h, w => by
    simp only [eqV] at h
    split at h
    · rename_i hu
      split at h
      · cases h; exact run_equalIn_bool' w (e + d) t _ _ hu
      · cases h
    · rename_i hu
      split at h
      · rename_i k a k' b'
        by_cases hk : k = k'
        · subst hk; simp at h; subst h; exact run_equalIn_int w (e + d) t k _ _ _ hu
        · simp [hk] at h
      · cases h
    · rename_i hu
      split at h
      · cases h; exact run_equalIn_string w (e + d) t _ _ hu
      · cases h
    · rename_i fs hu
      split at h
      · rename_i xs ys
        cases hs : P.stoodInHeld t with
        | true => simp [hs] at h
        | false =>
          simp only [hs, cond_false] at h
          have hfo : P.fieldsOf t = fs := by unfold Program.fieldsOf; rw [hu]
          rw [show e + (d + 1) = (e + d) + 1 by omega, run_equalIn_struct w (e + d) t xs ys (by rw [hfo]; exact hu) hs, hfo]
          exact eqFs_run (fun t x y b h w => eqV_run e d t x y b h w) xs ys fs.toList b h w
      · cases h
    · cases h
/-- Two structs, held against one another. -/
def eqlX (P : Program) (t : TypeId) (x y : Value) : Option Bool :=
  match x, y with
  | .agg _, .agg _ => bif P.eqGuardType P.depth t then none else eqV P 8 t x y
  | _, _ => none
theorem eqlX_run {t : TypeId} {x y : Value} {b : Bool} (h : eqlX P t x y = some b) (p q : Operand) (w : World) :
    ((do eqGuard .eql t p q x y; binOp .eql t x y : Sem Value).run P w = .ok (.bool b) w) ∧ ((do eqGuard .neq t p q x y; binOp .neq t x y : Sem Value).run P w = .ok (.bool (!b)) w) := by
  unfold eqlX at h
  split at h
  · rename_i xs ys
    cases hg : P.eqGuardType P.depth t with
    | true => simp [hg] at h
    | false =>
      simp only [hg, cond_false] at h
      have h1 := eqV_run 9992 8 t _ _ b h w
      constructor
      · rw [Sem.run_bind, run_eqGuard_agg w .eql t p q xs ys hg, Result.andThen_ok, run_eql_struct w t xs ys]
        show Result.andThen (Sem.run P (Op.equalIn (9992 + 8) t _ _) w) _ = _
        rw [h1]; rfl
      · rw [Sem.run_bind, run_eqGuard_agg w .neq t p q xs ys hg, Result.andThen_ok, run_neq_struct w t xs ys]
        show Result.andThen (Sem.run P (Op.equalIn (9992 + 8) t _ _) w) _ = _
        rw [h1]; rfl
  · cases h
def binX (P : Program) (o : Oper) (op : BinOp) (t : TypeId) (x y : AV) (st : AS) (K : AV → List Blk → Prop) : Prop :=
  match op, x, y with
  | .quo, .v (.int k a), .v (.int k' b) => bif decide (k = k') then bcase (b == 0) False (K (.v (.int k (k.wrap (a.tdiv b)))) st.hp) else False
  | .rem, .v (.int k a), .v (.int k' b) => bif decide (k = k') then bcase (b == 0) False (K (.v (.int k (a.tmod b))) st.hp) else False
  | .and, .v (.int k a), .v (.int k' b) => bif decide (k = k') then K (.v (.int k (andI k a b))) st.hp else False
  | .or, .v (.int k a), .v (.int k' b) => bif decide (k = k') then K (.v (.int k (orI k a b))) st.hp else False
  | .shl, .v (.int k a), .v (.int _ b) => bcase (decide (b < 0)) False (K (.v (.int k (k.wrap (a * 2 ^ (min b.toNat k.bits))))) st.hp)
  | .shr, .v (.int k a), .v (.int _ b) => bcase (decide (b < 0)) False (K (.v (.int k (a.fdiv (2 ^ (min b.toNat k.bits))))) st.hp)
  | .eql, .v (.agg a), .v (.agg b) => match eqlX P t (.agg a) (.agg b) with | some r => K (.v (.bool r)) st.hp | none => False
  | .neq, .v (.agg a), .v (.agg b) => match eqlX P t (.agg a) (.agg b) with | some r => K (.v (.bool (!r))) st.hp | none => False
  | .add, .v (.string a), .v (.string b) => bcase (tooLong a b) False (K (.v (.string (a ++ b))) st.hp)
  | _, _, _ => gen P o st K
def sliceElem (P : Program) (t : TypeId) : Option Nat :=
  match P.underlying t with
  | some (.slice e) => match P.info? e with | some i => some i.size | none => none
  | _ => none
def arrElem (P : Program) (t : TypeId) : Option (Nat × Nat) :=
  match P.underlying t with
  | some (.array n e) => match P.info? e with | some i => some (n, i.size) | none => none
  | _ => none
def inB (j : Int) (n : Nat) : Bool := decide (0 ≤ j) && decide (j < n)
def indexX (P : Program) (t : TypeId) (x i : AV) (K : AV → Prop) (other : Prop) : Prop :=
  match x, i with
  | .s k o n _, .v (.int _ j) => (match sliceElem P t with | some z => bcase (inB j n) (K (.p k (o + j.toNat * z))) False | none => False)
  | .p k o, .v (.int _ j) => (match arrElem P t with | some (n, z) => bcase (inB j n) (K (.p k (o + j.toNat * z))) False | none => False)
  | _, _ => other
def lenX (P : Program) (b : Builtin) (ts : Array TypeId) (args : List AV) : Option Int :=
  match b, args with
  | .len, [.s _ _ n _] => (match ts.toList with | t :: _ => (match P.underlying t with | some (.slice _) => some n | _ => none) | [] => none)
  | _, _ => none
/-- The cells of a slice that is written out. -/
def buildX (P : Program) (t : TypeId) (len : Nat) (parts : List (Nat × Value)) : Option (TypeId × Array Value) :=
  match P.underlying t with
  | some (.slice e) =>
    match P.info? e with
    | some ie =>
      match ie.zero with
      | some z => bif decide (len * ie.size > 2 ^ 24) || decide (len * ie.size = 0) then none else
        match Instr.fill (fun i => some (i * ie.size, ie.size)) ((Array.range (len * ie.size)).map (z.cells[· % z.cells.size]!)) parts with
        | some cells => some (e, cells)
        | none => none
      | none => none
    | none => none
  | _ => none
def partsX (P : Program) (t : TypeId) (len : Nat) (parts : Array (Nat × Operand)) (tm : List AV) : Option (TypeId × Array Value) :=
  bif parts.toList.all (fun q => isV (ev tm q.2)) then buildX P t len (parts.toList.map fun q => (q.1, evV tm q.2)) else none
def opX (P : Program) (Γ : List (FuncId × FSpec)) (inl : Inl) (o : Oper) (st : AS) (K : AV → List Blk → Prop) : Prop :=
  match o.op with
  | .move x | .assign x => K (ev st.tm x) st.hp
  | .pick c a b => match ev st.tm c with | .v (.bool t) => bcase t (K (ev st.tm a) st.hp) (K (ev st.tm b) st.hp) | _ => False
  | .alloc T => match P.info? T with | some i => (match i.zero with | some z => K (.p st.hp.length 0) (st.hp ++ [⟨T, z.cells.toList.map .v⟩]) | none => False) | none => False
  | .box T x => match cellsOf (ev st.tm x) with | some l => K (.p st.hp.length 0) (st.hp ++ [⟨T, l⟩]) | none => False
  | .load t x => match ev st.tm x with | .p k i => (match loadX P st.hp t k i with | some a => K a st.hp | none => False) | _ => False
  | .store t x y => match ev st.tm x with | .p k i => (match storeX P st.hp t k i (ev st.tm y) with | some hp => K (.v undef) hp | none => False) | _ => False
  | .fieldAddr s x f => match ev st.tm x with | .p k i => (match fieldX P s f with | some d => K (.p k (i + d)) st.hp | none => False) | _ => gen P o st K
  | .nilCheck x => match ev st.tm x with | .p k i => K (.p k i) st.hp | .c f l => K (.c f l) st.hp | _ => gen P o st K
  | .makeFunc fn first caps =>
    match fn, first.toList, ptrsOf (caps.toList.map (ev st.tm)) with
    | .func g, [], some l => K (.c g l) st.hp
    | _, _, _ => gen P o st K
  | .binOp op t x y _ => binX P o op t (ev st.tm x) (ev st.tm y) st K
  | .call c =>
    match c.callee with
    | .value f =>
      match ev st.tm f with
      | .v (.func (.func g) first caps) => callX Γ inl g (first.toList.map .v ++ c.args.toList.map (ev st.tm) ++ caps.toList.map .v) st.hp K
      | .c g l => callX Γ inl g (c.args.toList.map (ev st.tm) ++ l.map fun q => .p q.1 q.2) st.hp K
      | _ => False
    | .builtin b => match lenX P b c.argTypes (c.args.toList.map (ev st.tm)) with | some n => K (.v (.int .i64 n)) st.hp | none => gen P o st K
    | .invoke _ _ => False
  | .indexAddr t x i => indexX P t (ev st.tm x) (ev st.tm i) (fun a => K a st.hp) (gen P o st K)
  | .buildSlice t len parts => match partsX P t len parts st.tm with | some (e, cells) => K (.s st.hp.length 0 len len) (st.hp ++ [⟨e, cells.toList.map .v⟩]) | none => False
  | .select _ _ => False
  | _ => gen P o st K

theorem gen_sound {o : Oper} {st : AS} {a : Act} {K : AV → List Blk → Prop} {next : Act → World → Prop} {Q : Exit → Act → World → Prop}
    (hs : ∀ cs b, o.op ≠ .select cs b) (hR : RT ρ st.tm a.tmps) (h : gen P o st K)
    (hk : ∀ v, K (.v v) st.hp → next (a.put o.dst v) w) : o.wp P a w next Q := by
  unfold gen at h
  cases hb : o.op.operands.toList.all (fun x => isV (ev st.tm x)) with
  | false => simp [hb] at h
  | true =>
    simp only [hb, cond_true] at h
    have hall := List.all_eq_true.1 hb
    have hev : execOp a.eval o = execOp (evV st.tm) o := execOp_congr o hs fun x hx => evV_eq hR (hall x (by simpa using hx))
    cases hp : pureRun P (execOp (evV st.tm) o) with
    | none => simp [hp] at h
    | some n =>
      cases n <;> simp only [hp] at h
      case value v =>
        unfold Oper.wp
        rw [hev, pureRun_run hp]
        exact hk v h
theorem gen_R {o : Oper} {st : AS} {a : Act} {K : AV → List Blk → Prop} {next : Act → World → Prop} {Q : Exit → Act → World → Prop}
    (hs : ∀ cs b, o.op ≠ .select cs b) (hT : RT ρ st.tm a.tmps) (hR : Rel B w0 ρ (hpF st.hp) w) (h : gen P o st K)
    (hk : ∀ av hp' w' ρ' v, Ext ρ ρ' → Rel B w0 ρ' (hpF hp') w' → av.R ρ' v → K av hp' → next (a.put o.dst v) w') : o.wp P a w next Q :=
  gen_sound hs hT h fun v hv => hk (.v v) _ _ ρ v (Ext.refl ρ) hR rfl hv

def RL (ρ : Nat → Option Nat) : List AV → List Value → Prop
  | [], [] => True
  | a :: as, v :: vs => a.R ρ v ∧ RL ρ as vs
  | _, _ => False
theorem RL.length : ∀ {as : List AV} {vs : List Value}, RL ρ as vs → as.length = vs.length
  | [], [], _ => rfl
  | _ :: as, _ :: vs, h => by simp [RL.length h.2]
  | [], _ :: _, h => h.elim
  | _ :: _, [], h => h.elim
theorem RL.get : ∀ {as : List AV} {vs : List Value}, RL ρ as vs → ∀ i, (lget as i).R ρ (vs.getD i undef)
  | [], [], _, i => by show _ = _; simp
  | _ :: as, _ :: vs, h, 0 => by simpa [lget] using h.1
  | _ :: as, _ :: vs, h, i + 1 => by simpa [lget] using RL.get h.2 i
  | [], _ :: _, h, _ => h.elim
  | _ :: _, [], h, _ => h.elim
theorem RL.append : ∀ {as bs : List AV} {vs us : List Value}, RL ρ as vs → RL ρ bs us → RL ρ (as ++ bs) (vs ++ us)
  | [], _, [], _, _, k => k
  | _ :: as, _, _ :: vs, _, h, k => ⟨h.1, RL.append h.2 k⟩
  | [], _, _ :: _, _, h, _ => h.elim
  | _ :: _, _, [], _, h, _ => h.elim
theorem RL.vals : ∀ (l : List Value), RL ρ (l.map .v) l
  | [] => trivial
  | _ :: l => ⟨rfl, RL.vals l⟩
theorem RL.evs {tm : List AV} {a : Act} (h : RT ρ tm a.tmps) : ∀ (l : List Operand), RL ρ (l.map (ev tm)) (l.map a.eval)
  | [] => trivial
  | x :: l => ⟨ev_R h x, RL.evs h l⟩
theorem RL.ptrs : ∀ {l : List (Nat × Nat)} {r : List Value}, Abs.ptrs ρ l = some r → RL ρ (l.map fun q => .p q.1 q.2) r
  | [], r, h => by simp [Abs.ptrs] at h; subst h; trivial
  | (k, o) :: l, r, h => by
    simp only [Abs.ptrs] at h
    cases h1 : ρ k with
    | none => simp [h1] at h
    | some b =>
      cases h2 : Abs.ptrs ρ l with
      | none => simp [h1, h2] at h
      | some r' =>
        simp [h1, h2] at h
        subst h
        exact ⟨⟨b, h1, rfl⟩, RL.ptrs h2⟩
theorem vals_R : ∀ {as : List AV} {l vs : List Value}, vals as = some l → RL ρ as vs → vs = l
  | [], l, [], h, _ => by simp [vals] at h; simp [h]
  | [], l, _ :: _, _, hf => hf.elim
  | _ :: _, l, [], _, hf => hf.elim
  | a :: as, l, v :: vs, h, hf => by
    cases a with
    | v x =>
      simp only [vals] at h
      cases e : vals as with
      | none => simp [e] at h
      | some r =>
        simp [e] at h
        subst h
        rw [vals_R e hf.2, show v = x from hf.1]
    | _ => simp [vals] at h
theorem ptrsOf_R : ∀ {as : List AV} {l : List (Nat × Nat)} {vs : List Value}, ptrsOf as = some l → RL ρ as vs → Abs.ptrs ρ l = some vs
  | [], l, [], h, _ => by simp [ptrsOf] at h; subst h; rfl
  | [], l, _ :: _, _, hf => hf.elim
  | _ :: _, l, [], _, hf => hf.elim
  | a :: as, l, v :: vs, h, hf => by
    cases a with
    | p k o =>
      simp only [ptrsOf] at h
      cases e : ptrsOf as with
      | none => simp [e] at h
      | some r =>
        simp [e] at h
        subst h
        obtain ⟨⟨n, hn, rfl⟩, h2⟩ := hf
        simp [Abs.ptrs, hn, ptrsOf_R e h2]
    | _ => simp [ptrsOf] at h

def Callable (P : Program) (g : FuncId) : Prop := ∃ fn, P.funcs[g]? = some fn ∧ (fn.name == "runtime.NumGoroutine") = false ∧ fn.body.isSome = true
theorem run_callFunc' {g : FuncId} (h : Callable P g) (args : Array Value) (w : World) : (callFunc g args).run P w = .ok (.enter g args) w := by
  obtain ⟨fn, h1, h2, h3⟩ := h
  unfold callFunc
  have h3' : fn.body.isNone = false := by cases hb : fn.body <;> simp_all
  simp only [Sem.run_bind, show (program : Sem Program).run P w = .ok P w from rfl, Result.andThen_ok, h1, h2, h3', Bool.false_eq_true, if_false]
  rfl
theorem run_call {o : Oper} {c : Call} {f : Operand} {a : Act} {g : FuncId} {first caps : Array Value} (ho : o.op = .call c) (hc : c.callee = .value f)
    (hf : a.eval f = .func (.func g) first caps) (hg : Callable P g) (w : World) :
    (execOp a.eval o).run P w = .ok (.enter g (first ++ c.args.map a.eval ++ caps)) w := by
  unfold execOp
  simp only [ho]
  unfold resolve
  simp only [hc, Sem.run_bind, hf, Deferred.ofValue]
  show (invoke _ _).run P w = _
  unfold invoke
  exact run_callFunc' hg _ w
def InlSound (P : Program) (B : Nat) (w0 : World) (inl : Inl) : Prop :=
  ∀ g args hp K w ρ vs, inl g args hp K → Rel B w0 ρ (hpF hp) w → RL ρ args vs → Callable P g ∧
    Calls P g vs.toArray w fun e w' => ∃ ρ' hp' av v, e = .returned v ∧ Ext ρ ρ' ∧ Rel B w0 ρ' (hpF hp') w' ∧ AV.R ρ' av v ∧ K av hp'
theorem callX_sound {Φ : World → Prop} {Γ : List (FuncId × FSpec)} {inl : Inl} (hΓ : Sound P Φ Γ) (hΦ : ∀ w, Below B w0 w → B ≤ w.heap.size → Φ w) (hi : InlSound P B w0 inl)
    {g : FuncId} {args : List AV} {vs : List Value} {K : AV → List Blk → Prop} (hR : Rel B w0 ρ (hpF hp) w) (ha : RL ρ args vs) (h : callX Γ inl g args hp K) : Callable P g ∧
    Calls P g vs.toArray w fun e w' => ∃ ρ' hp' av v, e = .returned v ∧ Ext ρ ρ' ∧ Rel B w0 ρ' (hpF hp') w' ∧ AV.R ρ' av v ∧ K av hp' := by
  unfold callX at h
  cases hs : spec Γ g with
  | none => simp only [hs] at h; exact hi _ _ _ _ _ _ _ h hR ha
  | some s =>
    simp only [hs] at h
    cases hv : vals args with
    | none => simp [hv] at h
    | some l =>
      simp only [hv] at h
      cases hp : s l with
      | none => simp [hp] at h
      | some q =>
        obtain ⟨p, v⟩ := q
        simp only [hp] at h
        obtain ⟨h1, h2⟩ := hΓ g s hs
        refine ⟨h1, ?_⟩
        rw [vals_R hv ha]
        refine (h2 l p v hp h.1 w (hΦ w hR.below hR.base)).mono ?_
        rintro e w' ⟨rfl, hb⟩
        exact ⟨ρ, _, .v v, v, rfl, Ext.refl ρ, hR.later hb, rfl, h.2⟩
theorem upon_call {o : Oper} {a : Act} {next : Act → World → Prop} {Q : Exit → Act → World → Prop} {g : FuncId} {vs : Array Value} {K : AV → List Blk → Prop}
    (hrun : (execOp a.eval o).run P w = .ok (.enter g vs) w)
    (h : Calls P g vs w fun e w' => ∃ ρ' hp' av v, e = .returned v ∧ Ext ρ ρ' ∧ Rel B w0 ρ' (hpF hp') w' ∧ AV.R ρ' av v ∧ K av hp')
    (hk : ∀ av hp' w' ρ' v, Ext ρ ρ' → Rel B w0 ρ' (hpF hp') w' → av.R ρ' v → K av hp' → next (a.put o.dst v) w') : o.wp P a w next Q := by
  unfold Oper.wp
  rw [hrun, Oper.upon_enter]
  refine h.mono ?_
  rintro e w' ⟨ρ', hp', av, v, rfl, h1, h2, h3, h4⟩
  exact hk av hp' w' ρ' v h1 h2 h3 h4
end
section
variable {P : Program} {B : Nat} {w0 w : World} {ρ : Nat → Option Nat} {hp : List Blk}

theorem R_v (x : Value) : (AV.v x).R ρ x := rfl
theorem R_p {k n : Nat} (o : Nat) (h : ρ k = some n) : (AV.p k o).R ρ (.pointer (some ⟨n, o, none⟩)) := ⟨n, h, rfl⟩
theorem R_s {k n : Nat} (o m c : Nat) (h : ρ k = some n) : (AV.s k o m c).R ρ (.slice (some ⟨n, o, none⟩) m c) := ⟨n, h, rfl⟩
theorem R_c {f : FuncId} {l : List (Nat × Nat)} {r : List Value} (h : ptrs ρ l = some r) : (AV.c f l).R ρ (.func (.func f) #[] r.toArray) := ⟨r, h, rfl⟩
theorem run_sure (n i : Nat) (w : World) : (Instr.sureAddr (.pointer (some ⟨n, i, none⟩))).run P w = .ok ⟨n, i, none⟩ w := rfl
theorem upon_value' {o : Oper} {a : Act} {next : Act → World → Prop} {Q : Exit → Act → World → Prop} {v : Value} {w' : World}
    (hrun : (execOp a.eval o).run P w = .ok (.value v) w') (h : next (a.put o.dst v) w') : o.wp P a w next Q := by
  unfold Oper.wp
  rw [hrun]
  exact h
theorem indexX_run {t : TypeId} {x i : AV} {a b : Value} {K : AV → Prop} {other : Prop} (h : indexX P t x i K other) (hx : x.R ρ a) (hi : i.R ρ b) :
    other ∨ ∃ k o, K (.p k o) ∧ ∃ n, ρ k = some n ∧ ∀ w, (Instr.indexAt t a b).run P w = .ok (.pointer (some ⟨n, o, none⟩)) w := by
  unfold indexX at h
  split at h
  · rename_i k o n c kd j
    obtain ⟨m, hm, rfl⟩ := hx
    have hi : b = .int kd j := hi
    subst hi
    split at h
    · rename_i z hz
      have hb := (bcase_iff.1 h)
      have hin : inB j n = true := by
        cases e : inB j n with
        | true => rfl
        | false => exact (hb.2 e).elim
      refine .inr ⟨k, _, hb.1 hin, m, hm, fun w => ?_⟩
      unfold inB at hin
      simp only [Bool.and_eq_true, decide_eq_true_eq] at hin
      unfold sliceElem at hz
      split at hz
      · rename_i e hu
        split at hz
        · rename_i inf hinf
          cases hz
          simp only [Instr.indexAt, asIntOf, Sem.run_bind, Sem.run_pure, Result.andThen_ok, run_underlying hu, sizeOf, run_typeInfo w hinf]
          simp only [hin, and_self, if_true, Sem.run_bind, Sem.run_pure, Result.andThen_ok, run_typeInfo w hinf, addr_add]
        · cases hz
      · cases hz
    · exact h.elim
  · rename_i k o kd j
    obtain ⟨m, hm, rfl⟩ := hx
    have hi : b = .int kd j := hi
    subst hi
    split at h
    · rename_i n z hz
      have hb := (bcase_iff.1 h)
      have hin : inB j n = true := by
        cases e : inB j n with
        | true => rfl
        | false => exact (hb.2 e).elim
      refine .inr ⟨k, _, hb.1 hin, m, hm, fun w => ?_⟩
      unfold inB at hin
      simp only [Bool.and_eq_true, decide_eq_true_eq] at hin
      unfold arrElem at hz
      split at hz
      · rename_i e hu
        split at hz
        · rename_i inf hinf
          cases hz
          simp only [Instr.indexAt, Instr.sureAddr, asIntOf, Sem.run_bind, Sem.run_pure, Result.andThen_ok, run_underlying hu, sizeOf, run_typeInfo w hinf]
          simp only [hin, and_self, if_true, Sem.run_bind, Sem.run_pure, Result.andThen_ok, run_typeInfo w hinf, addr_add]
        · cases hz
      · cases hz
    · exact h.elim
  · exact .inl h
theorem lenX_run {b : Builtin} {ts : Array TypeId} {args : List AV} {vs : List Value} {n : Int} (h : lenX P b ts args = some n) (hr : RL ρ args vs) (type : TypeId) (cs : Array Bool) (w : World) :
    (builtin b ts type cs vs.toArray).run P w = .ok (.value (.int .i64 n)) w := by
  unfold lenX at h
  split at h
  · rename_i k o m c
    split at h
    · rename_i t l hts
      split at h
      · rename_i e hu
        cases h
        match vs, hr with
        | [v], hr =>
          obtain ⟨q, hq, rfl⟩ := hr.1
          have ht : ts[0]? = some t := by
            rw [← Array.getElem?_toList, hts]; rfl
          simp only [builtin, Builtin.len_, ht, Sem.run_bind]
          simp [run_underlying hu, goInt]
        | _ :: _ :: _, hr => exact hr.2.elim
        | [], hr => exact hr.elim
      · cases h
    · cases h
  · cases h
theorem run_builtin {o : Oper} {c : Call} {b : Builtin} {a : Act} (ho : o.op = .call c) (hc : c.callee = .builtin b) (w : World) :
    (execOp a.eval o).run P w = (builtin b c.argTypes o.type (c.args.map fun | .const _ => true | _ => false) (c.args.toList.map a.eval).toArray).run P w := by
  unfold execOp
  simp only [ho]
  unfold resolve
  simp only [hc, Sem.run_bind]
  show (invoke _ _).run P w = _
  unfold invoke
  have e : c.args.map a.eval = (c.args.toList.map a.eval).toArray := by apply Array.ext'; simp
  rw [e]
  rfl
theorem partsX_run {t : TypeId} {len : Nat} {parts : Array (Nat × Operand)} {tm : List AV} {e : TypeId} {cells : Array Value} {a : Act} (h : partsX P t len parts tm = some (e, cells))
    (he : ∀ q ∈ parts.toList, isV (ev tm q.2) = true → a.eval q.2 = evV tm q.2) (w : World) :
    (Instr.buildSlice t len (parts.map fun (i, x) => (i, a.eval x))).run P w = .ok (.slice (some ⟨w.heap.size, 0, none⟩) len len) (w.alloc (.cells cells e)) := by
  unfold partsX at h
  cases hb : parts.toList.all (fun q => isV (ev tm q.2)) with
  | false => simp [hb] at h
  | true =>
    simp only [hb, cond_true] at h
    have hall := List.all_eq_true.1 hb
    unfold buildX at h
    split at h
    · rename_i e' hu
      split at h
      · rename_i ie hie
        split at h
        · rename_i z hz
          cases hd : (decide (len * ie.size > 2 ^ 24) || decide (len * ie.size = 0)) with
          | true => rw [hd] at h; cases h
          | false =>
            rw [hd] at h
            simp only [cond_false] at h
            simp only [Bool.or_eq_false_iff, decide_eq_false_iff_not] at hd
            split at h
            · rename_i cs hf
              cases h
              refine run_buildSlice w t _ len _ _ ie z hu hie hz hd.1 hd.2 ?_
              have e2 : (parts.map fun (i, x) => (i, a.eval x)).toList = parts.toList.map fun q => (q.1, evV tm q.2) := by
                rw [Array.toList_map]
                exact List.map_congr_left fun q hq => by rw [← he q hq (hall q hq)]
              rw [e2]
              exact hf
            · cases h
        · cases h
      · cases h
    · cases h
theorem opX_sound {Φ : World → Prop} {Γ : List (FuncId × FSpec)} {inl : Inl} (hΓ : Sound P Φ Γ) (hΦ : ∀ w, Below B w0 w → B ≤ w.heap.size → Φ w) (hi : InlSound P B w0 inl)
    {o : Oper} {st : AS} {a : Act} {K : AV → List Blk → Prop} {next : Act → World → Prop} {Q : Exit → Act → World → Prop}
    (hT : RT ρ st.tm a.tmps) (hR : Rel B w0 ρ (hpF st.hp) w) (h : opX P Γ inl o st K)
    (hk : ∀ av hp' w' ρ' v, Ext ρ ρ' → Rel B w0 ρ' (hpF hp') w' → av.R ρ' v → K av hp' → next (a.put o.dst v) w') : o.wp P a w next Q := by
  have hpre := Ext.refl ρ
  unfold opX at h
  cases ho : o.op with
  | move x =>
    simp only [ho] at h
    exact upon_value' (v := a.eval x) (by simp only [execOp, ho]; rfl) (hk _ _ w ρ _ hpre hR (ev_R hT x) h)
  | assign x =>
    simp only [ho] at h
    exact upon_value' (v := a.eval x) (by simp only [execOp, ho]; rfl) (hk _ _ w ρ _ hpre hR (ev_R hT x) h)
  | pick c x y =>
    simp only [ho] at h
    have hc := ev_R hT c
    split at h
    · rename_i t ht
      rw [ht] at hc
      have hc : a.eval c = .bool t := hc
      have hrun : (execOp a.eval o).run P w = .ok (.value (if t then a.eval x else a.eval y)) w := by
        simp only [execOp, ho, hc]
        cases t <;> rfl
      refine upon_value' hrun ?_
      cases t with
      | true => exact hk _ _ w ρ _ hpre hR (ev_R hT x) h
      | false => exact hk _ _ w ρ _ hpre hR (ev_R hT y) h
    · exact h.elim
  | alloc T =>
    simp only [ho] at h
    cases hi' : P.info? T with
    | none => simp [hi'] at h
    | some i =>
      cases hz : i.zero with
      | none => simp [hi', hz] at h
      | some z =>
        simp only [hi', hz] at h
        have hrun : (execOp a.eval o).run P w = .ok (.value (.pointer (some ⟨w.heap.size, 0, none⟩))) (w.alloc (.cells z.cells T (0, 0))) := by
          simp only [execOp, ho, Instr.alloc, zeroValue, Sem.run_bind, run_typeInfo w hi', Result.andThen_ok, hz]
          rfl
        refine upon_value' hrun (hk _ _ _ _ _ (Ext.new (hR.dom _ (hpF_none _)) _) (by rw [hpF_new]; exact hR.new (hpF_none _) (by simp) (fun q hq => by rw [lget_map _ _ (by simpa using hq)]; show _ = _; simp [List.getD, Array.getD_eq_getD_getElem?])) (R_p 0 (by simp [rnew])) h)
  | box T x =>
    simp only [ho] at h
    cases hc : cellsOf (ev st.tm x) with
    | none => simp [hc] at h
    | some l =>
      simp only [hc] at h
      obtain ⟨h1, h2⟩ := cellsOf_R hc (ev_R hT x)
      have hrun : (execOp a.eval o).run P w = .ok (.value (.pointer (some ⟨w.heap.size, 0, none⟩))) (w.alloc (.cells (a.eval x).cells T (0, 0))) := by
        simp only [execOp, ho, Instr.box]
        rfl
      refine upon_value' hrun (hk _ _ _ _ _ (Ext.new (hR.dom _ (hpF_none _)) _) (by rw [hpF_new]; exact hR.new (hpF_none _) h1 h2) (R_p 0 (by simp [rnew])) h)
  | load t x =>
    simp only [ho] at h
    have hx := ev_R hT x
    split at h
    · rename_i k i hki
      rw [hki] at hx
      obtain ⟨n, hn, hx⟩ := hx
      split at h
      · rename_i av hl
        obtain ⟨v, hv, hr⟩ := loadX_run hR hn hl
        refine upon_value' (v := v) ?_ (hk _ _ w ρ _ hpre hR hr h)
        simp only [execOp, ho, hx, Instr.loadAt, Sem.run_bind, run_sure, Result.andThen_ok, hv]
        rfl
      · exact h.elim
    · exact h.elim
  | store t x y =>
    simp only [ho] at h
    have hx := ev_R hT x
    split at h
    · rename_i k i hki
      rw [hki] at hx
      obtain ⟨n, hn, hx⟩ := hx
      split at h
      · rename_i hp' hl
        obtain ⟨w', hw', hr⟩ := storeX_run hR hn (ev_R hT y) hl
        unfold Oper.wp
        have hrun : (execOp a.eval o).run P w = .ok .skip w' := by
          simp only [execOp, ho, hx, Instr.storeAt, Sem.run_bind, run_sure, Result.andThen_ok, hw']
          rfl
        rw [hrun]
        exact hk _ _ _ _ _ hpre hr (R_v undef) h
      · exact h.elim
    · exact h.elim
  | fieldAddr s x f =>
    simp only [ho] at h
    have hx := ev_R hT x
    split at h
    · rename_i k i hki
      rw [hki] at hx
      obtain ⟨n, hn, hx⟩ := hx
      split at h
      · rename_i d hd
        unfold fieldX at hd
        split at hd
        · rename_i fields hu
          split at hd
          · rename_i fd hf
            split at hd
            · rename_i inf hinf
              cases hb : Nat.beq inf.size 0 with
              | true => simp [hb] at hd
              | false =>
                simp only [hb, cond_false, Option.some.injEq] at hd
                subst hd
                have hne : inf.size ≠ 0 := fun e => by rw [e] at hb; cases hb
                refine upon_value' (v := .pointer (some ⟨n, i + fd.offset, none⟩)) ?_ (hk _ _ w ρ _ hpre hR (R_p _ hn) h)
                simp only [execOp, ho, hx, Instr.fieldAt, Sem.run_bind, run_underlying hu, Result.andThen_ok, hf, run_sure, fieldPlace, sizeOf, run_typeInfo w hinf]
                simp only [pure, Sem.run, Result.andThen_ok, hne, if_false, addr_add]
            · cases hd
          · cases hd
        · cases hd
      · exact h.elim
    · exact gen_R (by simp [ho]) hT hR h hk
  | nilCheck x =>
    simp only [ho] at h
    have hx := ev_R hT x
    split at h
    · rename_i k i hki
      rw [hki] at hx
      obtain ⟨n, hn, hx'⟩ := hx
      refine upon_value' (v := .pointer (some ⟨n, i, none⟩)) ?_ (hk _ _ w ρ _ hpre hR (R_p _ hn) h)
      simp only [execOp, ho, hx']
      rfl
    · rename_i f l hki
      rw [hki] at hx
      have hx0 := hx
      obtain ⟨r, hn, hx'⟩ := hx
      refine upon_value' (v := .func (.func f) #[] r.toArray) ?_ (hk _ _ w ρ _ hpre hR (R_c hn) h)
      simp only [execOp, ho, hx']
      rfl
    · exact gen_R (by simp [ho]) hT hR h hk
  | makeFunc fn first caps =>
    simp only [ho] at h
    split at h
    · rename_i g l hfi hpt
      have hfi' : first = #[] := by cases first; simp_all
      subst hfi'
      have hr := ptrsOf_R hpt (RL.evs hT caps.toList)
      refine upon_value' (v := .func (.func g) #[] (caps.toList.map a.eval).toArray) ?_ (hk _ _ w ρ _ hpre hR (R_c hr) h)
      simp only [execOp, ho]
      have e : caps.map a.eval = (caps.toList.map a.eval).toArray := by
        apply Array.ext'; simp
      rw [e, show Array.map a.eval #[] = #[] from by simp]
      rfl
    · exact gen_R (by simp [ho]) hT hR h hk
  | call c =>
    simp only [ho] at h
    cases hc : c.callee with
    | value f =>
      simp only [hc] at h
      have hf := ev_R hT f
      split at h
      · rename_i g first caps hfe
        rw [hfe] at hf
        have hf : a.eval f = .func (.func g) first caps := hf
        obtain ⟨h1, h2⟩ := callX_sound hΓ hΦ hi hR ((RL.append (RL.append (RL.vals (ρ := ρ) first.toList) (RL.evs hT c.args.toList)) (RL.vals caps.toList))) h
        refine upon_call (run_call ho hc hf h1 w) ?_ hk
        have e : (first.toList ++ c.args.toList.map a.eval ++ caps.toList).toArray = first ++ c.args.map a.eval ++ caps := by
          apply Array.ext'; simp
        rw [e] at h2
        exact h2
      · rename_i g l hfe
        rw [hfe] at hf
        obtain ⟨r, hr, hf⟩ := hf
        obtain ⟨h1, h2⟩ := callX_sound hΓ hΦ hi hR (RL.append (RL.evs hT c.args.toList) (RL.ptrs hr)) h
        refine upon_call (run_call ho hc hf h1 w) ?_ hk
        have e : (c.args.toList.map a.eval ++ r).toArray = #[] ++ c.args.map a.eval ++ r.toArray := by
          apply Array.ext'; simp
        rw [e] at h2
        exact h2
      · exact h.elim
    | builtin b =>
      simp only [hc] at h
      split at h
      · rename_i n hn
        refine upon_value' (v := .int .i64 n) ?_ (hk _ _ w ρ _ hpre hR (R_v _) h)
        rw [run_builtin ho hc w]
        exact lenX_run hn (RL.evs hT c.args.toList) _ _ w
      · exact gen_R (by simp [ho]) hT hR h hk
    | invoke r m => simp only [hc] at h
  | indexAddr t x i =>
    simp only [ho] at h
    rcases indexX_run h (ev_R hT x) (ev_R hT i) with h | ⟨k, q, h, n, hn, hrun⟩
    · exact gen_R (by simp [ho]) hT hR h hk
    · refine upon_value' (v := .pointer (some ⟨n, q, none⟩)) ?_ (hk _ _ w ρ _ hpre hR (R_p _ hn) h)
      simp only [execOp, ho, Sem.run_bind, hrun w, Result.andThen_ok]
      rfl
  | buildSlice t len parts =>
    simp only [ho] at h
    split at h
    · rename_i e cells hp
      have hrun := partsX_run (a := a) hp (fun q _ hv => evV_eq hT hv) w
      refine upon_value' (v := .slice (some ⟨w.heap.size, 0, none⟩) len len) (w' := w.alloc (.cells cells e)) ?_ (hk _ _ _ _ _ (Ext.new (hR.dom _ (hpF_none _)) _) (by rw [hpF_new]; exact hR.new (hpF_none _) (by simp) (fun q hq => by rw [lget_map _ _ (by simpa using hq)]; show _ = _; simp [List.getD, Array.getD_eq_getD_getElem?])) (R_s 0 len len (by simp [rnew])) h)
      simp only [execOp, ho, Sem.run_bind, hrun, Result.andThen_ok]
      rfl
    · exact h.elim
  | binOp op t x y yt =>
    simp only [ho] at h
    have hx := ev_R hT x
    have hy := ev_R hT y
    unfold binX at h
    split at h
    · rename_i k p k' q e1 e2
      rw [e1] at hx
      rw [e2] at hy
      have hx : a.eval x = .int k p := hx
      have hy : a.eval y = .int k' q := hy
      by_cases hkk : k = k'
      · subst hkk
        simp only [decide_true, cond_true] at h
        have hq := bcase_iff.1 h
        have hq0 : q ≠ 0 := fun e => (hq.1 (by simp [e])).elim
        refine upon_value' (v := .int k (k.wrap (p.tdiv q))) ?_ (hk _ _ w ρ _ hpre hR (R_v _) (hq.2 (by simpa using hq0)))
        simp only [execOp, ho, hx, hy, binOp, Op.intDiv, eqGuard]
        simp [hq0]
      · simp [hkk] at h
    · rename_i k p k' q e1 e2
      rw [e1] at hx
      rw [e2] at hy
      have hx : a.eval x = .int k p := hx
      have hy : a.eval y = .int k' q := hy
      by_cases hkk : k = k'
      · subst hkk
        simp only [decide_true, cond_true] at h
        have hq := bcase_iff.1 h
        have hq0 : q ≠ 0 := fun e => (hq.1 (by simp [e])).elim
        refine upon_value' (v := .int k (p.tmod q)) ?_ (hk _ _ w ρ _ hpre hR (R_v _) (hq.2 (by simpa using hq0)))
        simp only [execOp, ho, hx, hy, binOp, Op.intDiv, eqGuard]
        simp [hq0]
      · simp [hkk] at h
    · rename_i k p k' q e1 e2
      rw [e1] at hx
      rw [e2] at hy
      have hx : a.eval x = .int k p := hx
      have hy : a.eval y = .int k' q := hy
      by_cases hkk : k = k'
      · subst hkk
        simp only [decide_true, cond_true] at h
        refine upon_value' (v := .int k (andI k p q)) ?_ (hk _ _ w ρ _ hpre hR (R_v _) h)
        simp only [execOp, ho, hx, hy, binOp, Op.intBits, eqGuard]
        simp [andI]
      · simp [hkk] at h
    · rename_i k p k' q e1 e2
      rw [e1] at hx
      rw [e2] at hy
      have hx : a.eval x = .int k p := hx
      have hy : a.eval y = .int k' q := hy
      by_cases hkk : k = k'
      · subst hkk
        simp only [decide_true, cond_true] at h
        refine upon_value' (v := .int k (orI k p q)) ?_ (hk _ _ w ρ _ hpre hR (R_v _) h)
        simp only [execOp, ho, hx, hy, binOp, Op.intBits, eqGuard]
        simp [orI]
      · simp [hkk] at h
    · rename_i k p k' q e1 e2
      rw [e1] at hx
      rw [e2] at hy
      have hx : a.eval x = .int k p := hx
      have hy : a.eval y = .int k' q := hy
      have hq := bcase_iff.1 h
      have hq0 : ¬ q < 0 := fun e => (hq.1 (by simpa using e)).elim
      refine upon_value' (v := .int k (k.wrap (p * 2 ^ (min q.toNat k.bits)))) ?_ (hk _ _ w ρ _ hpre hR (R_v _) (hq.2 (by simpa using hq0)))
      simp only [execOp, ho, hx, hy, binOp, Op.shift, eqGuard]
      simp [hq0]
    · rename_i k p k' q e1 e2
      rw [e1] at hx
      rw [e2] at hy
      have hx : a.eval x = .int k p := hx
      have hy : a.eval y = .int k' q := hy
      have hq := bcase_iff.1 h
      have hq0 : ¬ q < 0 := fun e => (hq.1 (by simpa using e)).elim
      refine upon_value' (v := .int k (p.fdiv (2 ^ (min q.toNat k.bits)))) ?_ (hk _ _ w ρ _ hpre hR (R_v _) (hq.2 (by simpa using hq0)))
      simp only [execOp, ho, hx, hy, binOp, Op.shift, eqGuard]
      simp [hq0]
    · rename_i p q e1 e2
      rw [e1] at hx
      rw [e2] at hy
      have hx : a.eval x = .agg p := hx
      have hy : a.eval y = .agg q := hy
      split at h
      · rename_i r hr
        refine upon_value' (v := .bool r) ?_ (hk _ _ w ρ _ hpre hR (R_v _) h)
        simp only [execOp, ho, hx, hy]
        rw [Sem.run_bind, (eqlX_run hr x y w).1]
        rfl
      · exact h.elim
    · rename_i p q e1 e2
      rw [e1] at hx
      rw [e2] at hy
      have hx : a.eval x = .agg p := hx
      have hy : a.eval y = .agg q := hy
      split at h
      · rename_i r hr
        refine upon_value' (v := .bool (!r)) ?_ (hk _ _ w ρ _ hpre hR (R_v _) h)
        simp only [execOp, ho, hx, hy]
        rw [Sem.run_bind, (eqlX_run hr x y w).2]
        rfl
      · exact h.elim
    · rename_i p q e1 e2
      rw [e1] at hx
      rw [e2] at hy
      have hx : a.eval x = .string p := hx
      have hy : a.eval y = .string q := hy
      have hq := bcase_iff.1 h
      have hq0 : ¬ (((p.size + q.size : Nat) : Int) > IntKind.i64.max) := fun e => (hq.1 (by unfold tooLong; simpa using e)).elim
      refine upon_value' (v := .string (p ++ q)) ?_ (hk _ _ w ρ _ hpre hR (R_v _) (hq.2 (by unfold tooLong; simpa using hq0)))
      simp only [execOp, ho, hx, hy, binOp, Op.stringOp, eqGuard]
      rw [if_neg hq0]
      rfl
    · exact gen_R (by simp [ho]) hT hR h hk
  | select cs b => simp only [ho] at h
  | _ => simp only [ho] at h; exact gen_R (by simp [ho]) hT hR h hk
end
section
variable {P : Program} {B : Nat} {w0 w : World} {ρ : Nat → Option Nat} {hp : List Blk}

def dput (tm : List AV) (d : Option Nat) (a : AV) : List AV := match d with | none => tm | some d => lset tm d a
theorem RT.dput {tm : List AV} {a : Act} (h : RT ρ tm a.tmps) (d : Option Nat) {x : AV} {v : Value} (hr : x.R ρ v) : RT ρ (dput tm d x) (a.put d v).tmps := by
  cases d with
  | none => exact h
  | some d => exact h.set d hr
theorem put_defers {a : Act} (d : Option Nat) (v : Value) : (a.put d v).defers = a.defers := by cases d <;> rfl
def lnth : List Oper → Nat → Option Oper
  | [], _ => none
  | x :: _, 0 => some x
  | _ :: l, n + 1 => lnth l n
theorem lnth_eq : ∀ (l : List Oper) (n : Nat), lnth l n = l[n]?
  | [], _ => by simp [lnth]
  | _ :: _, 0 => rfl
  | _ :: l, n + 1 => by simpa [lnth] using lnth_eq l n
/-- Is the operation carried out? Where that hangs on a Bool: both ways, the slot that holds it known. -/
def wantX (all : List Oper) (st : AS) (o : Oper) (yes no : AS → Prop) : Prop :=
  match o.guard with
  | none => yes st
  | some (j, want) =>
    match lnth all j with
    | some g =>
      match g.dst with
      | some d =>
        match lget st.tm d with
        | .v (.bool b) => bcase b (bif want then yes ⟨lset st.tm d (.v (.bool true)), st.hp⟩ else no ⟨lset st.tm d (.v (.bool true)), st.hp⟩)
                                  (bif want then no ⟨lset st.tm d (.v (.bool false)), st.hp⟩ else yes ⟨lset st.tm d (.v (.bool false)), st.hp⟩)
        | .v _ => no st
        | _ => False
      | none => no st
    | none => no st
theorem setIf_self (t : Array Value) (d : Nat) (v : Value) (h : t.getD d undef = v) (hd : d < t.size) : t.setIfInBounds d v = t := by
  apply Array.ext
  · simp
  · intro i h1 h2
    rw [Array.getElem_setIfInBounds]
    split
    · rename_i e; subst e; subst h; simp [hd]
    · rfl
theorem RT.known {tm : List AV} {t : Array Value} (h : RT ρ tm t) {d : Nat} {v : Value} (hv : lget tm d = .v v) : RT ρ (lset tm d (.v v)) t := by
  have h1 := h.2 d
  rw [hv] at h1
  have h1 : t.getD d undef = v := h1
  by_cases hd : d < t.size
  · have := h.set d (a := .v v) (v := v) rfl
    rw [setIf_self t d v h1 hd] at this
    exact this
  · refine ⟨by rw [lset_length]; exact h.1, fun i => ?_⟩
    rw [lget_lset, if_neg (fun q => hd (by rw [← h.1]; exact q.2))]
    exact h.2 i
def boolOf : Value → Option Bool
  | .bool b => some b
  | _ => none
theorem yielded_some {all : Array Oper} {t : Array Value} {j d : Nat} {g : Oper} (hj : all[j]? = some g) (hd : g.dst = some d) : yielded all t j = boolOf (t.getD d undef) := by
  unfold yielded
  simp only [hj, Option.bind_some, hd]
  by_cases hlt : d < t.size
  · simp only [hlt, Array.getElem?_eq_getElem, Array.getD, dif_pos]
    show _ = boolOf t[d]
    cases t[d] <;> rfl
  · rw [Array.getElem?_eq_none (by omega)]
    simp [Array.getD, hlt, undef, boolOf]
theorem wantX_sound {all : Array Oper} {st : AS} {a : Act} {o : Oper} {yes no : AS → Prop} {G : Prop} (hT : RT ρ st.tm a.tmps) (h : wantX all.toList st o yes no)
    (hy : Region.wanted o (yielded all a.tmps) = true → ∀ st', st'.hp = st.hp → RT ρ st'.tm a.tmps → yes st' → G)
    (hn : Region.wanted o (yielded all a.tmps) = false → ∀ st', st'.hp = st.hp → RT ρ st'.tm a.tmps → no st' → G) : G := by
  unfold wantX at h
  unfold Region.wanted at hy hn
  cases hg : o.guard with
  | none => simp only [hg] at h hy; exact hy trivial st rfl hT h
  | some jw =>
    obtain ⟨j, want⟩ := jw
    simp only [hg] at h hy hn
    rw [lnth_eq] at h
    cases hj : all.toList[j]? with
    | none =>
      have hj' : all[j]? = none := by simpa using hj
      simp only [hj] at h
      exact hn (by simp [yielded, hj']) st rfl hT h
    | some g =>
      have hj' : all[j]? = some g := by simpa using hj
      simp only [hj] at h
      cases hd : g.dst with
      | none =>
        simp only [hd] at h
        exact hn (by simp [yielded, hj', hd]) st rfl hT h
      | some d =>
        simp only [hd] at h
        have hr := hT.2 d
        rw [yielded_some hj' hd] at hy hn
        cases hl : lget st.tm d with
        | v x =>
          rw [hl] at hr
          have hr : a.tmps.getD d undef = x := hr
          have hk := hT.known hl
          rw [hr] at hy hn
          simp only [hl] at h
          cases x with
          | bool b =>
            cases b <;> cases want <;> simp only [bcase, cond_true, cond_false] at h
            · exact hy rfl ⟨lset st.tm d (.v (.bool false)), st.hp⟩ rfl hk h
            · exact hn rfl ⟨lset st.tm d (.v (.bool false)), st.hp⟩ rfl hk h
            · exact hn rfl ⟨lset st.tm d (.v (.bool true)), st.hp⟩ rfl hk h
            · exact hy rfl ⟨lset st.tm d (.v (.bool true)), st.hp⟩ rfl hk h
          | _ => exact hn rfl st rfl hT h
        | p k i => simp only [hl] at h
        | c f l => simp only [hl] at h
        | s k o n c => simp only [hl] at h
        | any => simp only [hl] at h

/-- The operations of a region in the text's order. -/
def opsX (P : Program) (Γ : List (FuncId × FSpec)) (inl : Inl) (all : List Oper) : List Oper → AS → (AS → Prop) → Prop
  | [], st, K => K st
  | o :: rest, st, K => wantX all st o (fun st => opX P Γ inl o st fun av hp => opsX P Γ inl all rest ⟨dput st.tm o.dst av, hp⟩ K)
      (fun st => opsX P Γ inl all rest ⟨dput st.tm o.dst (.v undef), st.hp⟩ K)
theorem opsX_sound {Φ : World → Prop} {Γ : List (FuncId × FSpec)} {inl : Inl} (hΓ : Sound P Φ Γ) (hΦ : ∀ w, Below B w0 w → B ≤ w.heap.size → Φ w) (hi : InlSound P B w0 inl)
    {all : Array Oper} {K : AS → Prop} {Q : Exit → Act → World → Prop} : ∀ (rest : List Oper) (k : Nat), (∀ j, rest[j]? = all[k + j]?) → ∀ {st : AS} {a : Act} {w : World} {ρ : Nat → Option Nat},
    RT ρ st.tm a.tmps → a.defers = [] → Rel B w0 ρ (hpF st.hp) w → opsX P Γ inl all.toList rest st K →
    (∀ st' a' w' ρ', Ext ρ ρ' → RT ρ' st'.tm a'.tmps → a'.defers = [] → Rel B w0 ρ' (hpF st'.hp) w' → K st' → Q .normal a' w') →
    wpOps P all Q (List.range' k rest.length) a w
  | [], k, hl, st, a, w, ρ, hT, hd, hR, h, hk => hk st a w ρ (Ext.refl ρ) hT hd hR h
  | o :: rest, k, hl, st, a, w, ρ, hT, hd, hR, h, hk => by
    have h0 : all[k]? = some o := by simpa using (hl 0).symm
    have hl' : ∀ j, rest[j]? = all[k + 1 + j]? := fun j => by have := hl (j + 1); simpa [Nat.add_assoc, Nat.add_comm 1 j] using this
    simp only [List.length_cons, List.range'_succ, wpOps, h0]
    simp only [opsX] at h
    refine wantX_sound hT h (fun hw st' e hT' h' => ?_) (fun hw st' e hT' h' => ?_)
    · simp only [hw, if_true]
      refine .inl (opX_sound hΓ hΦ hi hT' (by rw [e]; exact hR) h' fun av hp' w' ρ' v h1 h2 h3 h4 => ?_)
      exact opsX_sound hΓ hΦ hi rest (k + 1) hl' ((hT'.mono h1).dput o.dst h3) (by rw [put_defers]; exact hd) h2 h4
        fun st'' a'' w'' ρ'' k1 k2 k3 k4 k5 => hk st'' a'' w'' ρ'' (h1.trans k1) k2 k3 k4 k5
    · simp only [hw, Bool.false_eq_true, if_false]
      exact opsX_sound hΓ hΦ hi rest (k + 1) hl' (hT'.dput o.dst (R_v undef)) (by rw [put_defers]; exact hd) (by show Rel _ _ _ (hpF st'.hp) w; rw [e]; exact hR) h' hk
end
section
variable {P : Program} {B : Nat} {w0 w : World} {ρ : Nat → Option Nat} {hp : List Blk}

/-! A region whose order is open. -/
/-- What an operation does to the call's own blocks, known beforehand. -/
inductive Kd where
  | val (R : List (Nat × Blk))
  | put (k : Nat) (b y : Blk)
  | new (k : Nat) (b : Blk)
def Kd.on (H : Nat → Option Blk) : Kd → Prop
  | .val R => ∀ q ∈ R, H q.1 = some q.2
  | .put k b _ => H k = some b
  | .new k _ => H k = none
def Kd.eff (H : Nat → Option Blk) : Kd → Nat → Option Blk
  | .val _ => H
  | .put k _ y => upd H k y
  | .new k b => upd H k b
def Kd.reads : Kd → List Nat
  | .val R => R.map (·.1)
  | .put k _ _ => [k]
  | .new k _ => [k]
def Kd.writes : Kd → List Nat
  | .val _ => []
  | .put k _ _ => [k]
  | .new k _ => [k]
def memN (n : Nat) : List Nat → Bool
  | [] => false
  | m :: l => Nat.beq m n || memN n l
theorem memN_iff {n : Nat} : ∀ {l : List Nat}, memN n l = false → n ∉ l
  | [], _ => by simp
  | m :: l, h => by
    simp only [memN, Bool.or_eq_false_iff] at h
    have h2 := memN_iff h.2
    intro q
    rcases List.mem_cons.1 q with q | q
    · subst q; rw [Nat.beq_refl] at h; cases h.1
    · exact h2 q
def apartN (r w : List Nat) : Bool := w.all fun k => !memN k r
theorem apartN_iff {r w : List Nat} (h : apartN r w = true) {k : Nat} (hk : k ∈ w) : k ∉ r := by
  unfold apartN at h
  have := List.all_eq_true.1 h k hk
  exact memN_iff (by simpa using this)
def indepF (x y : List Nat × List Nat) : Bool := apartN x.1 y.2 && apartN y.1 x.2
def Kd.fp (x : Kd) : List Nat × List Nat := (x.reads, x.writes)
theorem on_eff {H : Nat → Option Blk} {x y : Kd} (h : apartN x.reads y.writes = true) : x.on (y.eff H) ↔ x.on H := by
  have key : ∀ k, k ∈ x.reads → y.eff H k = H k := fun k hk => by
    cases y with
    | val R => rfl
    | put j b c => show upd H j c k = H k; unfold upd; rw [if_neg]; intro e; subst e; exact apartN_iff h (k := k) (by simp [Kd.writes]) hk
    | new j b => show upd H j b k = H k; unfold upd; rw [if_neg]; intro e; subst e; exact apartN_iff h (k := k) (by simp [Kd.writes]) hk
  cases x with
  | val R =>
    simp only [Kd.on]
    constructor
    · intro q p hp; have := q p hp; rwa [key p.1 (List.mem_map.2 ⟨p, hp, rfl⟩)] at this
    · intro q p hp; rw [key p.1 (List.mem_map.2 ⟨p, hp, rfl⟩)]; exact q p hp
  | put k b c => simp only [Kd.on]; rw [key k (by simp [Kd.reads])]
  | new k b => simp only [Kd.on]; rw [key k (by simp [Kd.reads])]
theorem eff_comm {H : Nat → Option Blk} {x y : Kd} (h : indepF x.fp y.fp = true) : x.eff (y.eff H) = y.eff (x.eff H) := by
  have ne : ∀ k j, k ∈ x.writes → j ∈ y.writes → k ≠ j := fun k j hk hj e => by
    subst e
    unfold indepF at h
    simp only [Bool.and_eq_true] at h
    have h2 := apartN_iff h.1 hj
    cases x <;> simp [Kd.writes] at hk <;> simp [Kd.fp, Kd.reads, hk] at h2
  have comm : ∀ k j b c, k ≠ j → upd (upd H j c) k b = upd (upd H k b) j c := fun k j b c hn => by
    funext i
    unfold upd
    by_cases p : i = k <;> by_cases q : i = j
    · exact absurd (p.symm.trans q) hn
    · simp [p, hn]
    · simp [q, Ne.symm hn]
    · simp [p, q]
  cases x <;> cases y <;> simp only [Kd.eff] <;> (try exact comm _ _ _ _ (ne _ _ (by simp [Kd.writes]) (by simp [Kd.writes])))

section
variable {ops : Array Oper} {md : Region.Mode}
/-- The slots that an operation looks at read as the abstract ones. -/
def RTo (ops : Array Oper) (o : Oper) (ρ : Nat → Option Nat) (tm : List AV) (a : Act) : Prop := ∀ t ∈ o.looksAt ops, (lget tm t).R ρ (a.tmps.getD t undef)
def Does (P : Program) (B : Nat) (w0 : World) (ops : Array Oper) (o : Oper) (tm : List AV) (α : AV) (kd : Kd) : Prop :=
  ∀ ρ a w H next Q, RTo ops o ρ tm a → Rel B w0 ρ H w → kd.on H → (∀ ρ' v w', Ext ρ ρ' → α.R ρ' v → Rel B w0 ρ' (kd.eff H) w' → next (a.put o.dst v) w') → o.wp P a w next Q
def Wd (ops : Array Oper) (o : Oper) (tm : List AV) (b : Bool) : Prop := ∀ ρ a, RTo ops o ρ tm a → Region.wanted o (yielded ops a.tmps) = b
def YD (P : Program) (B : Nat) (w0 : World) (ops : Array Oper) (o : Oper) (tm : List AV) (α : AV) (kd : Kd) : Prop :=
  (Wd ops o tm true ∧ Does P B w0 ops o tm α kd) ∨ (Wd ops o tm false ∧ α = .v undef ∧ kd = .val [])
theorem RTo.congr {o : Oper} {ρ : Nat → Option Nat} {tm tm' : List AV} {a : Act} (h : ∀ t ∈ o.looksAt ops, lget tm t = lget tm' t) (hr : RTo ops o ρ tm a) : RTo ops o ρ tm' a :=
  fun t ht => by rw [← h t ht]; exact hr t ht
theorem YD.congr {o : Oper} {tm tm' : List AV} {α : AV} {kd : Kd} (h : ∀ t ∈ o.looksAt ops, lget tm t = lget tm' t) (hy : YD P B w0 ops o tm α kd) : YD P B w0 ops o tm' α kd := by
  have h' : ∀ t ∈ o.looksAt ops, lget tm' t = lget tm t := fun t ht => (h t ht).symm
  rcases hy with ⟨h1, h2⟩ | ⟨h1, h2⟩
  · exact .inl ⟨fun ρ a hr => h1 ρ a (hr.congr h'), fun ρ a w H next Q hr => h2 ρ a w H next Q (hr.congr h')⟩
  · exact .inr ⟨fun ρ a hr => h1 ρ a (hr.congr h'), h2⟩
theorem dput_get {tm : List AV} {d : Option Nat} {x : AV} {t : Nat} (h : ∀ e, d = some e → e ≠ t) : lget (dput tm d x) t = lget tm t := by
  cases d with
  | none => rfl
  | some d =>
    show lget (lset tm d x) t = _
    rw [lget_lset, if_neg]
    intro q
    exact h d rfl q.1.symm
theorem lset_comm : ∀ (l : List AV) (i j : Nat) (x y : AV), i ≠ j → lset (lset l i x) j y = lset (lset l j y) i x
  | [], _, _, _, _, _ => rfl
  | a :: l, 0, 0, _, _, h => absurd rfl h
  | a :: l, 0, j + 1, _, _, _ => rfl
  | a :: l, i + 1, 0, _, _, _ => rfl
  | a :: l, i + 1, j + 1, x, y, h => by simp [lset, lset_comm l i j x y (by omega)]
theorem dput_comm (tm : List AV) {d e : Option Nat} (x y : AV) (h : ∀ i, d = some i → e ≠ some i) : dput (dput tm d x) e y = dput (dput tm e y) d x := by
  cases d with
  | none => rfl
  | some d =>
    cases e with
    | none => rfl
    | some e => exact lset_comm tm d e x y (fun q => h d rfl (by rw [q]))
/-- Whatever order is picked from here on. -/
def anyD (P : Program) (B : Nat) (w0 : World) (md : Region.Mode) (ops : Array Oper) (α : Nat → AV) (kd : Nat → Kd) (Fin : List AV → (Nat → Option Blk) → Prop) : Nat → Array Bool → List AV → (Nat → Option Blk) → Prop
  | 0, listed, tm, H => Region.ready md ops listed = [] ∧ Fin tm H
  | fuel + 1, listed, tm, H =>
    (Region.ready md ops listed = [] → Fin tm H) ∧
    ∀ i ∈ Region.ready md ops listed, ∃ o, ops[i]? = some o ∧ YD P B w0 ops o tm (α i) (kd i) ∧ (kd i).on H ∧
      anyD P B w0 md ops α kd Fin fuel (listed.setIfInBounds i true) (dput tm o.dst (α i)) ((kd i).eff H)
theorem RT.o {ρ : Nat → Option Nat} {tm : List AV} {a : Act} (h : RT ρ tm a.tmps) (o : Oper) : RTo ops o ρ tm a := fun t _ => h.2 t
theorem anyD_sound {α : Nat → AV} {kd : Nat → Kd} {Fin : List AV → (Nat → Option Blk) → Prop} {Q : Exit → Act → World → Prop} {ρ0 : Nat → Option Nat}
    (hQ : ∀ tm H ρ a w, Fin tm H → RT ρ tm a.tmps → a.defers = [] → Rel B w0 ρ H w → Ext ρ0 ρ → Q .normal a w) :
    ∀ (fuel : Nat) (listed : Array Bool) (tm : List AV) (H : Nat → Option Blk) (ρ : Nat → Option Nat) (a : Act) (w : World), Ext ρ0 ρ → RT ρ tm a.tmps → a.defers = [] → Rel B w0 ρ H w →
      anyD P B w0 md ops α kd Fin fuel listed tm H → wpAny P md ops Q fuel listed a w
  | 0, _, tm, H, ρ, a, w, he, hT, hd, hR, h => ⟨h.1, hQ tm H ρ a w h.2 hT hd hR he⟩
  | fuel + 1, listed, tm, H, ρ, a, w, he, hT, hd, hR, h => by
    refine ⟨fun h0 => hQ tm H ρ a w (h.1 h0) hT hd hR he, fun i hi => ?_⟩
    obtain ⟨o, ho, hy, hon, hrest⟩ := h.2 i hi
    unfold wpOp
    simp only [ho]
    rcases hy with ⟨h1, h2⟩ | ⟨h1, h2, h3⟩
    · rw [if_pos (h1 ρ a (hT.o o))]
      refine .inl (h2 ρ a w H _ Q (hT.o o) hR hon fun ρ' v w' e1 e2 e3 => ?_)
      exact anyD_sound hQ fuel _ _ _ ρ' _ w' (he.trans e1) ((hT.mono e1).dput o.dst e2) (by rw [put_defers]; exact hd) e3 hrest
    · rw [if_neg (by rw [h1 ρ a (hT.o o)]; simp)]
      rw [h2, h3] at hrest
      exact anyD_sound hQ fuel _ _ _ ρ _ w he (hT.dput o.dst (show (AV.v undef).R ρ undef from rfl)) (by rw [put_defers]; exact hd) hR hrest
/-- Of each operation: those that it waits for, through others too. -/
def addN (xs ys : List Nat) : List Nat := xs.foldr (fun x r => bif memN x r then r else x :: r) ys
def ancOf (md : Region.Mode) (A : List (List Nat)) : List Edge → List Nat
  | [] => []
  | e :: l => bif Region.binds md e then addN (e.on :: A.getD e.on []) (ancOf md A l) else ancOf md A l
def ancL (md : Region.Mode) : List Oper → List (List Nat) → List (List Nat)
  | [], A => A
  | o :: l, A => ancL md l (A ++ [ancOf md A o.after.toList])
theorem memN_of : ∀ {n : Nat} {l : List Nat}, memN n l = true → n ∈ l
  | n, [], h => by cases h
  | n, m :: l, h => by
    simp only [memN, Bool.or_eq_true] at h
    rcases h with h | h
    · exact List.mem_cons.2 (.inl (Nat.eq_of_beq_eq_true h).symm)
    · exact List.mem_cons.2 (.inr (memN_of h))
theorem mem_addN {xs ys : List Nat} {n : Nat} (h : n ∈ addN xs ys) : n ∈ xs ∨ n ∈ ys := by
  unfold addN at h
  induction xs with
  | nil => exact .inr h
  | cons x xs ih =>
    simp only [List.foldr_cons] at h
    cases hm : memN x (xs.foldr (fun x r => bif memN x r then r else x :: r) ys) with
    | true => rw [hm] at h; rcases ih h with q | q
              · exact .inl (List.mem_cons.2 (.inr q))
              · exact .inr q
    | false =>
      rw [hm] at h
      rcases List.mem_cons.1 h with q | q
      · exact .inl (List.mem_cons.2 (.inl q))
      · rcases ih q with q | q
        · exact .inl (List.mem_cons.2 (.inr q))
        · exact .inr q
theorem mem_ancOf {A : List (List Nat)} {n : Nat} : ∀ {l : List Edge}, n ∈ ancOf md A l → ∃ e ∈ l, Region.binds md e = true ∧ (e.on = n ∨ n ∈ A.getD e.on [])
  | [], h => by cases h
  | e :: l, h => by
    unfold ancOf at h
    cases hb : Region.binds md e with
    | true =>
      rw [hb] at h
      rcases mem_addN h with q | q
      · rcases List.mem_cons.1 q with q | q
        · exact ⟨e, by simp, hb, .inl q.symm⟩
        · exact ⟨e, by simp, hb, .inr q⟩
      · obtain ⟨e', h1, h2⟩ := mem_ancOf q
        exact ⟨e', by simp [h1], h2⟩
    | false =>
      rw [hb] at h
      obtain ⟨e', h1, h2⟩ := mem_ancOf h
      exact ⟨e', by simp [h1], h2⟩
/-- Whoever is there, those are there too that it waits for. -/
def AncOk (md : Region.Mode) (ops : Array Oper) (A : List (List Nat)) : Prop :=
  ∀ j i, i ∈ A.getD j [] → ∃ oj, ops[j]? = some oj ∧ ∃ e ∈ oj.after, Region.binds md e = true ∧ (e.on = i ∨ (e.on < j ∧ i ∈ A.getD e.on []))
theorem ancL_ok : ∀ (l : List Oper) (A : List (List Nat)), (∀ q, l[q]? = ops[A.length + q]?) → AncOk md ops A → AncOk md ops (ancL md l A)
  | [], A, _, h => h
  | o :: l, A, hl, h => by
    unfold ancL
    refine ancL_ok l _ (fun q => ?_) (fun j i hi => ?_)
    · have := hl (q + 1)
      simp only [List.getElem?_cons_succ] at this
      rw [this]
      congr 1
      simp; omega
    · have old : ∀ k, k < A.length → (A ++ [ancOf md A o.after.toList]).getD k [] = A.getD k [] := fun k hk => by
        simp [List.getD, List.getElem?_append_left hk]
      rcases Nat.lt_trichotomy j A.length with q | q | q
      · rw [old j q] at hi
        obtain ⟨oj, h1, e, h2, h3, h4⟩ := h j i hi
        refine ⟨oj, h1, e, h2, h3, ?_⟩
        rcases h4 with h4 | ⟨h4, h5⟩
        · exact .inl h4
        · exact .inr ⟨h4, by rw [old _ (by omega)]; exact h5⟩
      · subst q
        have e0 : (A ++ [ancOf md A o.after.toList]).getD A.length [] = ancOf md A o.after.toList := by simp [List.getD]
        rw [e0] at hi
        obtain ⟨e, h1, h2, h3⟩ := mem_ancOf hi
        refine ⟨o, by simpa using (hl 0).symm, e, by simpa using h1, h2, ?_⟩
        rcases h3 with h3 | h3
        · exact .inl h3
        · have hlt : e.on < A.length := by
            rcases Nat.lt_or_ge e.on A.length with r | r
            · exact r
            · simp [List.getD, List.getElem?_eq_none r] at h3
          exact .inr ⟨hlt, by rw [old _ hlt]; exact h3⟩
      · have : (A ++ [ancOf md A o.after.toList]).getD j [] = [] := by
          simp only [List.getD]
          rw [List.getElem?_eq_none (by simp; omega)]
          rfl
        rw [this] at hi
        cases hi
theorem ancL_ok0 (md : Region.Mode) (ops : Array Oper) : AncOk md ops (ancL md ops.toList []) := ancL_ok ops.toList [] (fun q => by simp) (fun j i h => by simp [List.getD] at h)
def waitsA (A : List (List Nat)) (i j : Nat) : Bool := memN i (A.getD j [])
theorem getD_rep (m j : Nat) : (Array.replicate m false).getD j false = false := by
  rcases Nat.lt_or_ge j m with h | h
  · simp [h]
  · simp [h]
structure Closed (md : Region.Mode) (ops : Array Oper) (listed : Array Bool) : Prop where
  size : listed.size = ops.size
  closed : ∀ (j : Nat) (oj : Oper), ops[j]? = some oj → listed.getD j false = true → ∀ e ∈ oj.after, Region.binds md e = true → listed.getD e.on false = true
theorem Closed.waits {listed : Array Bool} (hc : Closed md ops listed) {A : List (List Nat)} (hA : AncOk md ops A) {i : Nat} : ∀ (n j : Nat), j ≤ n → i ∈ A.getD j [] → listed.getD j false = true → listed.getD i false = true := by
  intro n
  induction n with
  | zero =>
    intro j hj h hl
    obtain ⟨oj, h1, e, h2, h3, h4⟩ := hA j i h
    have := hc.closed j oj h1 hl e h2 h3
    rcases h4 with h4 | ⟨h4, _⟩
    · rw [h4] at this; exact this
    · omega
  | succ n ih =>
    intro j hj h hl
    obtain ⟨oj, h1, e, h2, h3, h4⟩ := hA j i h
    have := hc.closed j oj h1 hl e h2 h3
    rcases h4 with h4 | ⟨h4, h5⟩
    · rw [h4] at this; exact this
    · exact ih e.on (by omega) h5 this
theorem getDb {listed : Array Bool} {i : Nat} (h : listed.getD i true = false) : listed.getD i false = false := by
  rcases Nat.lt_or_ge i listed.size with h' | h'
  · simp [h'] at h ⊢; exact h
  · simp [Array.getElem?_eq_none h'] at h
theorem Closed.notWaits {listed : Array Bool} (hc : Closed md ops listed) {A : List (List Nat)} (hA : AncOk md ops A) {i j : Nat} (hj : j ∈ Region.ready md ops listed) (hi : listed.getD i true = false) : waitsA A i j = false := by
  cases h : waitsA A i j with
  | false => rfl
  | true =>
    obtain ⟨_, o, ho, hall⟩ := mem_ready.1 hj
    obtain ⟨oj, h1, e, h2, h3, h4⟩ := hA j i (memN_of h)
    obtain rfl : oj = o := Option.some.inj (h1.symm.trans ho)
    have h5 := hall e h2 h3
    have h0 := getDb hi
    rcases h4 with h4 | ⟨_, h4⟩
    · rw [h4, h0] at h5; cases h5
    · rw [hc.waits hA e.on e.on (Nat.le_refl _) h4 h5] at h0; cases h0
theorem Closed.set {listed : Array Bool} (hc : Closed md ops listed) {i : Nat} (hi : i ∈ Region.ready md ops listed) : Closed md ops (listed.setIfInBounds i true) := by
  obtain ⟨_, oi, hoi, hall⟩ := mem_ready.1 hi
  have up : ∀ k, listed.getD k false = true → (listed.setIfInBounds i true).getD k false = true := fun k hk => by
    by_cases q : i = k
    · subst q
      rcases Nat.lt_or_ge i listed.size with h' | h'
      · simp [h']
      · simp [Array.getElem?_eq_none h'] at hk
    · rw [getD_set_ne false q]; exact hk
  refine ⟨by simp [hc.size], fun j oj hj hl e he hb => up _ ?_⟩
  by_cases hij : i = j
  · subst hij
    obtain rfl : oj = oi := Option.some.inj (hj.symm.trans hoi)
    exact hall e he hb
  · rw [getD_set_ne false hij] at hl
    exact hc.closed j oj hj hl e he hb
theorem anyD_first {α : Nat → AV} {kd : Nat → Kd} {Fin : List AV → (Nat → Option Blk) → Prop} {i : Nat} {A : List (List Nat)} (hA : AncOk md ops A) {oi : Oper} (hi : ops[i]? = some oi) :
    ∀ (fuel : Nat) (listed : Array Bool) (tm : List AV) (H : Nat → Option Blk), Closed md ops listed →
      (∀ j oj, ops[j]? = some oj → j ≠ i → listed.getD j true = false → (∀ e ∈ oj.after, Region.binds md e = true → e.on ≠ i) → oi.apart ops oj = true) →
      (∀ j oj, ops[j]? = some oj → j ≠ i → listed.getD j true = false → waitsA A i j = false → indepF (kd i).fp (kd j).fp = true) →
      i ∈ Region.ready md ops listed → YD P B w0 ops oi tm (α i) (kd i) → (kd i).on H →
      anyD P B w0 md ops α kd Fin fuel (listed.setIfInBounds i true) (dput tm oi.dst (α i)) ((kd i).eff H) → anyD P B w0 md ops α kd Fin (fuel + 1) listed tm H := by
  intro fuel
  induction fuel with
  | zero =>
    intro listed tm H hc _ _ hr hy hon h
    refine ⟨fun h0 => (by rw [h0] at hr; cases hr), fun j hj => ?_⟩
    by_cases hji : j = i
    · subst hji; exact ⟨oi, hi, hy, hon, h⟩
    · have := ready_mono hj hji
      rw [h.1] at this
      cases this
  | succ fuel ih =>
    intro listed tm H hc hfree hind hr hy hon h
    refine ⟨fun h0 => (by rw [h0] at hr; cases hr), fun j hj => ?_⟩
    by_cases hji : j = i
    · subst hji; exact ⟨oi, hi, hy, hon, h⟩
    · obtain ⟨oj, hoj, hyj, honj, hrest⟩ := h.2 j (ready_mono hj hji)
      have hjun := (mem_ready.1 hj).1
      have hiun := (mem_ready.1 hr).1
      obtain ⟨_, oj', hoj', hall⟩ := mem_ready.1 hj
      obtain rfl : oj' = oj := Option.some.inj (hoj'.symm.trans hoj)
      have hnot : ∀ e ∈ oj'.after, Region.binds md e = true → e.on ≠ i := fun e he hb heq => by
        have h1 := hall e he hb
        rw [heq, getDb hiun] at h1
        cases h1
      have hap := Oper.apart_spec (hfree j oj' hoj hji hjun hnot)
      have hin := hind j oj' hoj hji hjun (hc.notWaits hA hj hiun)
      have hin' := hin
      unfold indepF at hin'
      simp only [Bool.and_eq_true] at hin'
      obtain ⟨p1, p2, p3⟩ := hap
      refine ⟨oj', hoj, hyj.congr (fun t ht => dput_get fun e he q => p1 e he (q ▸ ht)), (on_eff hin'.2).1 honj, ?_⟩
      refine ih (listed.setIfInBounds j true) _ _ (hc.set hj) (fun k ok hk hki hun hno => ?_) (fun k ok hk hki hun hno => ?_) (ready_mono hr (Ne.symm hji))
        (hy.congr (fun t ht => (dput_get fun e he q => p3 e he (q ▸ ht)).symm)) ((on_eff hin'.1).2 hon) ?_
      · refine hfree k ok hk hki ?_ hno
        by_cases hjk : j = k
        · subst hjk; exact hjun
        · rw [getD_set_ne true hjk] at hun; exact hun
      · refine hind k ok hk hki ?_ hno
        by_cases hjk : j = k
        · subst hjk; exact hjun
        · rw [getD_set_ne true hjk] at hun; exact hun
      · rw [Array.setIfInBounds_comm _ _ hji, ← dput_comm tm (α i) (α j) p2, eff_comm hin]
        exact hrest
/-- The text's order. -/
def runD (P : Program) (B : Nat) (w0 : World) (ops : Array Oper) (α : Nat → AV) (kd : Nat → Kd) (Fin : List AV → (Nat → Option Blk) → Prop) : List Oper → Nat → List AV → (Nat → Option Blk) → Prop
  | [], _, tm, H => Fin tm H
  | o :: l, k, tm, H => YD P B w0 ops o tm (α k) (kd k) ∧ (kd k).on H ∧ runD P B w0 ops α kd Fin l (k + 1) (dput tm o.dst (α k)) ((kd k).eff H)
/-- Each pair of operations, of which the later does not wait for the earlier, is apart in the blocks. -/
def pairsA (A : List (List Nat)) (fps : List (List Nat × List Nat)) : Bool :=
  fps.zipIdx.all fun x => (fps.zipIdx.drop (x.2 + 1)).all fun y => indepF x.1 y.1 || waitsA A x.2 y.2
def pairsB (md : Region.Mode) (ops : Array Oper) (fps : List (List Nat × List Nat)) : Bool := pairsA (ancL md ops.toList []) fps
theorem anyD_lex {α : Nat → AV} {kd : Nat → Kd} {Fin : List AV → (Nat → Option Blk) → Prop}
    (hind : ∀ i j, i < j → j < ops.size → waitsA (ancL md ops.toList []) i j = false → indepF (kd i).fp (kd j).fp = true) : ∀ (l : List Oper) (k : Nat) (listed : Array Bool) (tm : List AV) (H : Nat → Option Blk), (∀ j, l[j]? = ops[k + j]?) →
    Closed md ops listed → (∀ j, j < k → j < ops.size → listed.getD j true = true) →
    Region.lexFrom md ops l.length k listed = true → runD P B w0 ops α kd Fin l k tm H → anyD P B w0 md ops α kd Fin l.length listed tm H
  | [], _, listed, tm, H, _, _, _, hB, h => ⟨by simpa [Region.lexFrom] using hB, h⟩
  | o :: l, k, listed, tm, H, hl, hc, hlist, hB, h => by
    have h0 : ops[k]? = some o := by simpa using (hl 0).symm
    simp only [List.length_cons, Region.lexFrom, Bool.and_eq_true] at hB
    obtain ⟨⟨hr, hf⟩, hB'⟩ := hB
    have hr : k ∈ Region.ready md ops listed := by simpa using hr
    obtain ⟨hy, hon, hrest⟩ := h
    refine anyD_first (ancL_ok0 md ops) h0 l.length listed tm H hc (Region.free_spec h0 hf) (fun j oj hoj hjk hun hw => ?_) hr hy hon ?_
    · have hjs : j < ops.size := (Array.getElem?_eq_some_iff.1 hoj).1
      refine hind k j ?_ hjs hw
      rcases Nat.lt_or_ge k j with q | q
      · exact q
      · have := hlist j (by omega) hjs
        rw [this] at hun; cases hun
    · refine anyD_lex hind l (k + 1) _ _ _ (fun j => by have := hl (j + 1); simpa [Nat.add_assoc, Nat.add_comm 1 j] using this) (hc.set hr) (fun j hj hjs => ?_) hB' hrest
      by_cases q : k = j
      · subst q
        have : k < listed.size := by rw [hc.size]; exact hjs
        simp [this]
      · rw [getD_set_ne true q]; exact hlist j (by omega) hjs
end
theorem looks_op {ops : Array Oper} {o : Oper} {t : Nat} (h : Operand.tmp t ∈ o.op.operands) : t ∈ o.looksAt ops := by
  unfold Oper.looksAt
  exact List.mem_append.2 (.inl (List.mem_filterMap.2 ⟨.tmp t, by simpa using h, rfl⟩))
theorem RTo.ev {ops : Array Oper} {o : Oper} {tm : List AV} {a : Act} (h : RTo ops o ρ tm a) {x : Operand} (hx : x ∈ o.op.operands) : (Abs.ev tm x).R ρ (a.eval x) := by
  cases x with
  | tmp t => exact h t (looks_op hx)
  | _ => rfl
theorem RL.evs' {tm : List AV} {a : Act} : ∀ (l : List Operand), (∀ x ∈ l, (ev tm x).R ρ (a.eval x)) → RL ρ (l.map (ev tm)) (l.map a.eval)
  | [], _ => trivial
  | x :: l, h => ⟨h x (by simp), RL.evs' l fun y hy => h y (by simp [hy])⟩
theorem evV_eq' {tm : List AV} {a : Act} {x : Operand} (h : (ev tm x).R ρ (a.eval x)) (hx : isV (ev tm x) = true) : a.eval x = evV tm x := by
  unfold evV
  cases e : ev tm x with
  | v b => rw [e] at h; exact h
  | _ => simp [e, isV] at hx
/-- An operation that neither reads nor writes the call's own blocks. -/
def ValD (P : Program) (B : Nat) (w0 : World) (o : Oper) (tm : List AV) (α : AV) : Prop :=
  ∀ ρ a w H next Q, (∀ x ∈ o.op.operands, (ev tm x).R ρ (a.eval x)) → Rel B w0 ρ H w → (∀ ρ' v w', Ext ρ ρ' → α.R ρ' v → Rel B w0 ρ' H w' → next (a.put o.dst v) w') → o.wp P a w next Q
theorem val_mk {o : Oper} {tm : List AV} {α : AV} (h : ∀ ρ (a : Act), (∀ x ∈ o.op.operands, (ev tm x).R ρ (a.eval x)) → ∃ v, α.R ρ v ∧ ∀ w, (execOp a.eval o).run P w = .ok (.value v) w) : ValD P B w0 o tm α :=
  fun ρ a w H next Q he hR hk => by
    obtain ⟨v, h1, h2⟩ := h ρ a he
    exact upon_value' (h2 w) (hk ρ v w (Ext.refl ρ) h1 hR)
theorem val_gen {o : Oper} {st : AS} {K : AV → List Blk → Prop} (hs : ∀ cs b, o.op ≠ .select cs b) (h : gen P o st K) : ∃ α, ValD P B w0 o st.tm α ∧ K α st.hp := by
  unfold gen at h
  cases hb : o.op.operands.toList.all (fun x => isV (ev st.tm x)) with
  | false => simp [hb] at h
  | true =>
    simp only [hb, cond_true] at h
    have hall := List.all_eq_true.1 hb
    cases hp : pureRun P (execOp (evV st.tm) o) with
    | none => simp [hp] at h
    | some n =>
      cases n <;> simp only [hp] at h
      case value v =>
        refine ⟨.v v, val_mk fun ρ a he => ⟨v, rfl, fun w => ?_⟩, h⟩
        rw [execOp_congr o hs fun x hx => evV_eq' (he x hx) (hall x (by simpa using hx)), pureRun_run hp]
theorem val_call {Φ : World → Prop} {Γ : List (FuncId × FSpec)} (hΓ : Sound P Φ Γ) (hΦ : ∀ w, Below B w0 w → B ≤ w.heap.size → Φ w) {o : Oper} {st : AS} {K : AV → List Blk → Prop} {g : FuncId} {args : List AV}
    (h : callX Γ (fun _ _ _ _ => False) g args st.hp K)
    (hrun : ∀ ρ (a : Act), (∀ x ∈ o.op.operands, (ev st.tm x).R ρ (a.eval x)) → ∃ vs va, RL ρ args vs ∧ vs.toArray = va ∧ (Callable P g → ∀ w, (execOp a.eval o).run P w = .ok (.enter g va) w)) :
    ∃ α, ValD P B w0 o st.tm α ∧ K α st.hp := by
  unfold callX at h
  cases hs : spec Γ g with
  | none => simp only [hs] at h
  | some s =>
    simp only [hs] at h
    cases hv : vals args with
    | none => simp [hv] at h
    | some l =>
      simp only [hv] at h
      cases hp : s l with
      | none => simp [hp] at h
      | some q =>
        obtain ⟨p, v⟩ := q
        simp only [hp] at h
        obtain ⟨h1, h2⟩ := hΓ g s hs
        refine ⟨.v v, fun ρ a w H next Q he hR hk => ?_, h.2⟩
        obtain ⟨vs, va, ha, hva, hr⟩ := hrun ρ a he
        unfold Oper.wp
        rw [hr h1 w, Oper.upon_enter, ← hva, vals_R hv ha]
        refine (h2 l p v hp h.1 w (hΦ w hR.below hR.base)).mono ?_
        rintro e w' ⟨rfl, hb⟩
        exact hk ρ v w' (Ext.refl ρ) rfl (hR.later hb)
def heapOp : Op → Bool
  | .alloc _ | .box _ _ | .store _ _ _ | .load _ _ | .buildSlice _ _ _ => true
  | _ => false
theorem valX_sound {Φ : World → Prop} {Γ : List (FuncId × FSpec)} (hΓ : Sound P Φ Γ) (hΦ : ∀ w, Below B w0 w → B ≤ w.heap.size → Φ w) {o : Oper} {st : AS} {K : AV → List Blk → Prop} (hno : heapOp o.op = false)
    (h : opX P Γ (fun _ _ _ _ => False) o st K) : ∃ α, ValD P B w0 o st.tm α ∧ K α st.hp := by
  unfold opX at h
  cases ho : o.op with
  | alloc T => rw [ho] at hno; cases hno
  | box T x => rw [ho] at hno; cases hno
  | store T x y => rw [ho] at hno; cases hno
  | load t x => rw [ho] at hno; cases hno
  | buildSlice t n ps => rw [ho] at hno; cases hno
  | move x =>
    simp only [ho] at h
    exact ⟨_, val_mk fun ρ a he => ⟨a.eval x, he x (by simp [ho, Op.operands]), fun w => by simp only [execOp, ho]; rfl⟩, h⟩
  | assign x =>
    simp only [ho] at h
    exact ⟨_, val_mk fun ρ a he => ⟨a.eval x, he x (by simp [ho, Op.operands]), fun w => by simp only [execOp, ho]; rfl⟩, h⟩
  | pick c x y =>
    simp only [ho] at h
    split at h
    · rename_i t ht
      have hc : ∀ ρ (a : Act), (∀ x ∈ o.op.operands, (ev st.tm x).R ρ (a.eval x)) → a.eval c = .bool t := fun ρ a he => by
        have := he c (by simp [ho, Op.operands]); rw [ht] at this; exact this
      cases t with
      | true => exact ⟨_, val_mk fun ρ a he => ⟨a.eval x, he x (by simp [ho, Op.operands]), fun w => by simp only [execOp, ho, hc ρ a he]; rfl⟩, h⟩
      | false => exact ⟨_, val_mk fun ρ a he => ⟨a.eval y, he y (by simp [ho, Op.operands]), fun w => by simp only [execOp, ho, hc ρ a he]; rfl⟩, h⟩
    · exact h.elim
  | fieldAddr s x f =>
    simp only [ho] at h
    split at h
    · rename_i k i hki
      split at h
      · rename_i d hd
        refine ⟨_, val_mk fun ρ a he => ?_, h⟩
        have hx := he x (by simp [ho, Op.operands])
        rw [hki] at hx
        obtain ⟨n, hn, hx⟩ := hx
        unfold fieldX at hd
        split at hd
        · rename_i fields hu
          split at hd
          · rename_i fd hf
            split at hd
            · rename_i inf hinf
              cases hb : Nat.beq inf.size 0 with
              | true => simp [hb] at hd
              | false =>
                simp only [hb, cond_false, Option.some.injEq] at hd
                subst hd
                have hne : inf.size ≠ 0 := fun e => by rw [e] at hb; cases hb
                refine ⟨.pointer (some ⟨n, i + fd.offset, none⟩), R_p _ hn, fun w => ?_⟩
                simp only [execOp, ho, hx, Instr.fieldAt, Sem.run_bind, run_underlying hu, Result.andThen_ok, hf, run_sure, fieldPlace, sizeOf, run_typeInfo w hinf]
                simp only [pure, Sem.run, Result.andThen_ok, hne, if_false, addr_add]
            · cases hd
          · cases hd
        · cases hd
      · exact h.elim
    · exact val_gen (by simp [ho]) h
  | nilCheck x =>
    simp only [ho] at h
    split at h
    · rename_i k i hki
      refine ⟨_, val_mk fun ρ a he => ?_, h⟩
      have hx := he x (by simp [ho, Op.operands])
      rw [hki] at hx
      obtain ⟨n, hn, hx'⟩ := hx
      exact ⟨_, R_p _ hn, fun w => by simp only [execOp, ho, hx']; rfl⟩
    · rename_i f l hki
      refine ⟨_, val_mk fun ρ a he => ?_, h⟩
      have hx := he x (by simp [ho, Op.operands])
      rw [hki] at hx
      obtain ⟨r, hn, hx'⟩ := hx
      exact ⟨_, R_c hn, fun w => by simp only [execOp, ho, hx']; rfl⟩
    · exact val_gen (by simp [ho]) h
  | makeFunc fn first caps =>
    simp only [ho] at h
    split at h
    · rename_i g l hfi hpt
      have hfi' : first = #[] := by cases first; simp_all
      subst hfi'
      refine ⟨_, val_mk fun ρ a he => ?_, h⟩
      have hr := ptrsOf_R hpt (RL.evs' (ρ := ρ) (a := a) caps.toList fun x hx => he x (by rw [ho]; simp only [Op.operands]; simpa using hx))
      refine ⟨.func (.func g) #[] (caps.toList.map a.eval).toArray, R_c hr, fun w => ?_⟩
      simp only [execOp, ho]
      have e : caps.map a.eval = (caps.toList.map a.eval).toArray := by
        apply Array.ext'; simp
      rw [e, show Array.map a.eval #[] = #[] from by simp]
      rfl
    · exact val_gen (by simp [ho]) h
  | call c =>
    simp only [ho] at h
    cases hc : c.callee with
    | value f =>
      simp only [hc] at h
      have hmemf : f ∈ o.op.operands := by simp [ho, Op.operands, Call.operands, hc]
      have hmema : ∀ x ∈ c.args.toList, x ∈ o.op.operands := fun x hx => by
        rw [ho]; simp only [Op.operands, Call.operands, hc]
        exact Array.mem_append.2 (.inr (by simpa using hx))
      split at h
      · rename_i g first caps hfe
        refine val_call hΓ hΦ h fun ρ a he => ?_
        have hf := he f hmemf
        rw [hfe] at hf
        have hf : a.eval f = .func (.func g) first caps := hf
        exact ⟨_, first ++ c.args.map a.eval ++ caps, RL.append (RL.append (RL.vals (ρ := ρ) first.toList) (RL.evs' c.args.toList fun x hx => he x (hmema x hx))) (RL.vals caps.toList), by apply Array.ext'; simp, fun hg w => run_call ho hc hf hg w⟩
      · rename_i g l hfe
        refine val_call hΓ hΦ h fun ρ a he => ?_
        have hf := he f hmemf
        rw [hfe] at hf
        obtain ⟨r, hr, hf⟩ := hf
        exact ⟨_, #[] ++ c.args.map a.eval ++ r.toArray, RL.append (RL.evs' c.args.toList fun x hx => he x (hmema x hx)) (RL.ptrs hr), by apply Array.ext'; simp, fun hg w => run_call ho hc hf hg w⟩
      · exact h.elim
    | builtin b =>
      simp only [hc] at h
      have hmema : ∀ x ∈ c.args.toList, x ∈ o.op.operands := fun x hx => by
        rw [ho]; simp only [Op.operands, Call.operands, hc]
        exact Array.mem_append.2 (.inr (by simpa using hx))
      split at h
      · rename_i n hn
        refine ⟨_, val_mk fun ρ a he => ⟨.int .i64 n, R_v _, fun w => ?_⟩, h⟩
        rw [run_builtin ho hc w]
        exact lenX_run hn (RL.evs' (ρ := ρ) c.args.toList fun x hx => he x (hmema x hx)) _ _ w
      · exact val_gen (by simp [ho]) h
    | invoke r m => simp only [hc] at h
  | indexAddr t x i =>
    simp only [ho] at h
    have key : ∀ α, (∀ ρ (a : Act), (∀ x ∈ o.op.operands, (ev st.tm x).R ρ (a.eval x)) → ∃ v, α.R ρ v ∧ ∀ w, (Instr.indexAt t (a.eval x) (a.eval i)).run P w = .ok v w) → ValD P B w0 o st.tm α := fun α hα =>
      val_mk fun ρ a he => by
        obtain ⟨v, h1, h2⟩ := hα ρ a he
        exact ⟨v, h1, fun w => by simp only [execOp, ho, Sem.run_bind, h2 w, Result.andThen_ok]; rfl⟩
    have hx : x ∈ o.op.operands := by simp [ho, Op.operands]
    have hi : i ∈ o.op.operands := by simp [ho, Op.operands]
    have h0 := h
    unfold indexX at h
    split at h
    · rename_i k q n c kd j e1 e2
      split at h
      · rename_i z hz
        have hb := bcase_iff.1 h
        have hin : inB j n = true := by
          cases e : inB j n with
          | true => rfl
          | false => exact (hb.2 e).elim
        refine ⟨_, key _ fun ρ a he => ?_, hb.1 hin⟩
        have h1 : indexX P t (ev st.tm x) (ev st.tm i) (fun a => a = .p k (q + j.toNat * z)) False := by
          rw [e1, e2]; unfold indexX; simp only [hz]; rw [hin]; trivial
        rcases indexX_run h1 (he x hx) (he i hi) with h | ⟨k', q', h2, m, hm, hrun⟩
        · exact h.elim
        · cases h2
          exact ⟨_, R_p _ hm, hrun⟩
      · exact h.elim
    · rename_i k q kd j e1 e2
      split at h
      · rename_i n z hz
        have hb := bcase_iff.1 h
        have hin : inB j n = true := by
          cases e : inB j n with
          | true => rfl
          | false => exact (hb.2 e).elim
        refine ⟨_, key _ fun ρ a he => ?_, hb.1 hin⟩
        have h1 : indexX P t (ev st.tm x) (ev st.tm i) (fun a => a = .p k (q + j.toNat * z)) False := by
          rw [e1, e2]; unfold indexX; simp only [hz]; rw [hin]; trivial
        rcases indexX_run h1 (he x hx) (he i hi) with h | ⟨k', q', h2, m, hm, hrun⟩
        · exact h.elim
        · cases h2
          exact ⟨_, R_p _ hm, hrun⟩
      · exact h.elim
    · exact val_gen (by simp [ho]) h
  | binOp op t x y yt =>
    simp only [ho] at h
    have hxm : x ∈ o.op.operands := by simp [ho, Op.operands]
    have hym : y ∈ o.op.operands := by simp [ho, Op.operands]
    unfold binX at h
    split at h
    · rename_i k p k' q e1 e2
      by_cases hkk : k = k'
      · subst hkk
        simp only [decide_true, cond_true] at h
        have hq := bcase_iff.1 h
        have hq0 : q ≠ 0 := fun e => (hq.1 (by simp [e])).elim
        refine ⟨_, val_mk fun ρ a he => ⟨_, R_v _, fun w => ?_⟩, hq.2 (by simpa using hq0)⟩
        have hx := he x hxm; rw [e1] at hx; have hx : a.eval x = .int k p := hx
        have hy := he y hym; rw [e2] at hy; have hy : a.eval y = .int k q := hy
        simp only [execOp, ho, hx, hy, binOp, Op.intDiv, eqGuard]
        simp [hq0]
      · simp [hkk] at h
    · rename_i k p k' q e1 e2
      by_cases hkk : k = k'
      · subst hkk
        simp only [decide_true, cond_true] at h
        have hq := bcase_iff.1 h
        have hq0 : q ≠ 0 := fun e => (hq.1 (by simp [e])).elim
        refine ⟨_, val_mk fun ρ a he => ⟨_, R_v _, fun w => ?_⟩, hq.2 (by simpa using hq0)⟩
        have hx := he x hxm; rw [e1] at hx; have hx : a.eval x = .int k p := hx
        have hy := he y hym; rw [e2] at hy; have hy : a.eval y = .int k q := hy
        simp only [execOp, ho, hx, hy, binOp, Op.intDiv, eqGuard]
        simp [hq0]
      · simp [hkk] at h
    · rename_i k p k' q e1 e2
      by_cases hkk : k = k'
      · subst hkk
        simp only [decide_true, cond_true] at h
        refine ⟨_, val_mk fun ρ a he => ⟨_, R_v _, fun w => ?_⟩, h⟩
        have hx := he x hxm; rw [e1] at hx; have hx : a.eval x = .int k p := hx
        have hy := he y hym; rw [e2] at hy; have hy : a.eval y = .int k q := hy
        simp only [execOp, ho, hx, hy, binOp, Op.intBits, eqGuard]
        simp [andI]
      · simp [hkk] at h
    · rename_i k p k' q e1 e2
      by_cases hkk : k = k'
      · subst hkk
        simp only [decide_true, cond_true] at h
        refine ⟨_, val_mk fun ρ a he => ⟨_, R_v _, fun w => ?_⟩, h⟩
        have hx := he x hxm; rw [e1] at hx; have hx : a.eval x = .int k p := hx
        have hy := he y hym; rw [e2] at hy; have hy : a.eval y = .int k q := hy
        simp only [execOp, ho, hx, hy, binOp, Op.intBits, eqGuard]
        simp [orI]
      · simp [hkk] at h
    · rename_i k p k' q e1 e2
      have hq := bcase_iff.1 h
      have hq0 : ¬ q < 0 := fun e => (hq.1 (by simpa using e)).elim
      refine ⟨_, val_mk fun ρ a he => ⟨_, R_v _, fun w => ?_⟩, hq.2 (by simpa using hq0)⟩
      have hx := he x hxm; rw [e1] at hx; have hx : a.eval x = .int k p := hx
      have hy := he y hym; rw [e2] at hy; have hy : a.eval y = .int k' q := hy
      simp only [execOp, ho, hx, hy, binOp, Op.shift, eqGuard]
      simp [hq0]
    · rename_i k p k' q e1 e2
      have hq := bcase_iff.1 h
      have hq0 : ¬ q < 0 := fun e => (hq.1 (by simpa using e)).elim
      refine ⟨_, val_mk fun ρ a he => ⟨_, R_v _, fun w => ?_⟩, hq.2 (by simpa using hq0)⟩
      have hx := he x hxm; rw [e1] at hx; have hx : a.eval x = .int k p := hx
      have hy := he y hym; rw [e2] at hy; have hy : a.eval y = .int k' q := hy
      simp only [execOp, ho, hx, hy, binOp, Op.shift, eqGuard]
      simp [hq0]
    · rename_i p q e1 e2
      split at h
      · rename_i r hr
        refine ⟨_, val_mk fun ρ a he => ⟨_, R_v _, fun w => ?_⟩, h⟩
        have hx := he x hxm; rw [e1] at hx; have hx : a.eval x = .agg p := hx
        have hy := he y hym; rw [e2] at hy; have hy : a.eval y = .agg q := hy
        simp only [execOp, ho, hx, hy]
        rw [Sem.run_bind, (eqlX_run hr x y w).1]
        rfl
      · exact h.elim
    · rename_i p q e1 e2
      split at h
      · rename_i r hr
        refine ⟨_, val_mk fun ρ a he => ⟨_, R_v _, fun w => ?_⟩, h⟩
        have hx := he x hxm; rw [e1] at hx; have hx : a.eval x = .agg p := hx
        have hy := he y hym; rw [e2] at hy; have hy : a.eval y = .agg q := hy
        simp only [execOp, ho, hx, hy]
        rw [Sem.run_bind, (eqlX_run hr x y w).2]
        rfl
      · exact h.elim
    · rename_i p q e1 e2
      have hq := bcase_iff.1 h
      have hq0 : ¬ (((p.size + q.size : Nat) : Int) > IntKind.i64.max) := fun e => (hq.1 (by unfold tooLong; simpa using e)).elim
      refine ⟨_, val_mk fun ρ a he => ⟨_, R_v _, fun w => ?_⟩, hq.2 (by unfold tooLong; simpa using hq0)⟩
      have hx := he x hxm; rw [e1] at hx; have hx : a.eval x = .string p := hx
      have hy := he y hym; rw [e2] at hy; have hy : a.eval y = .string q := hy
      simp only [execOp, ho, hx, hy, binOp, Op.stringOp, eqGuard]
      rw [if_neg hq0]
      rfl
    · exact val_gen (by simp [ho]) h
  | select cs b => simp only [ho] at h
  | _ => simp only [ho] at h; exact val_gen (by simp [ho]) h

/-- An operation of a region whose order is open; what it reads and writes of the call's own blocks is handed on. -/
def dopX (P : Program) (Γ : List (FuncId × FSpec)) (o : Oper) (st : AS) (K : AV → List Blk → List Nat × List Nat → Prop) : Prop :=
  match o.op with
  | .alloc T => match P.info? T with | some i => (match i.zero with | some z => K (.p st.hp.length 0) (st.hp ++ [⟨T, z.cells.toList.map .v⟩]) ([st.hp.length], [st.hp.length]) | none => False) | none => False
  | .box T x => match cellsOf (ev st.tm x) with | some l => K (.p st.hp.length 0) (st.hp ++ [⟨T, l⟩]) ([st.hp.length], [st.hp.length]) | none => False
  | .load t x => match ev st.tm x with | .p k i => (match loadX P st.hp t k i with | some a => K a st.hp ([k], []) | none => False) | _ => False
  | .store t x y => match ev st.tm x with | .p k i => (match storeX P st.hp t k i (ev st.tm y) with | some hp => K (.v undef) hp ([k], [k]) | none => False) | _ => False
  | .buildSlice t len parts => match partsX P t len parts st.tm with | some (e, cells) => K (.s st.hp.length 0 len len) (st.hp ++ [⟨e, cells.toList.map .v⟩]) ([st.hp.length], [st.hp.length]) | none => False
  | _ => opX P Γ (fun _ _ _ _ => False) o st fun a hp => K a hp ([], [])
theorem dopX_sound {Φ : World → Prop} {Γ : List (FuncId × FSpec)} (hΓ : Sound P Φ Γ) (hΦ : ∀ w, Below B w0 w → B ≤ w.heap.size → Φ w) {ops : Array Oper} {o : Oper} {st : AS} {K : AV → List Blk → List Nat × List Nat → Prop}
    (h : dopX P Γ o st K) : ∃ α kd hp', Does P B w0 ops o st.tm α kd ∧ kd.on (hpF st.hp) ∧ kd.eff (hpF st.hp) = hpF hp' ∧ K α hp' kd.fp := by
  unfold dopX at h
  have other : heapOp o.op = false → opX P Γ (fun _ _ _ _ => False) o st (fun a hp => K a hp ([], [])) → ∃ α kd hp', Does P B w0 ops o st.tm α kd ∧ kd.on (hpF st.hp) ∧ kd.eff (hpF st.hp) = hpF hp' ∧ K α hp' kd.fp := fun hn h => by
    obtain ⟨α, h1, h2⟩ := valX_sound (B := B) (w0 := w0) hΓ hΦ hn h
    exact ⟨α, .val [], st.hp, fun ρ a w H next Q hr hR _ hk => h1 ρ a w H next Q (fun x hx => hr.ev hx) hR hk, (fun q hq => by cases hq), rfl, h2⟩
  cases ho : o.op with
  | alloc T =>
    simp only [ho] at h
    cases hi' : P.info? T with
    | none => simp [hi'] at h
    | some i =>
      cases hz : i.zero with
      | none => simp [hi', hz] at h
      | some z =>
        simp only [hi', hz] at h
        refine ⟨.p st.hp.length 0, .new st.hp.length ⟨T, z.cells.toList.map .v⟩, _, fun ρ a w H next Q hr hR hon hk => ?_, hpF_none _, (hpF_new _ _).symm, h⟩
        have hrun : (execOp a.eval o).run P w = .ok (.value (.pointer (some ⟨w.heap.size, 0, none⟩))) (w.alloc (.cells z.cells T (0, 0))) := by
          simp only [execOp, ho, Instr.alloc, zeroValue, Sem.run_bind, run_typeInfo w hi', Result.andThen_ok, hz]
          rfl
        refine upon_value' hrun (hk _ _ _ (Ext.new (hR.dom _ hon) _) (R_p 0 (by simp [rnew])) (hR.new hon (by simp) (fun q hq => ?_)))
        rw [lget_map _ _ (by simpa using hq)]
        show _ = _
        simp [List.getD, Array.getD_eq_getD_getElem?]
  | box T x =>
    simp only [ho] at h
    cases hc : cellsOf (ev st.tm x) with
    | none => simp [hc] at h
    | some l =>
      simp only [hc] at h
      refine ⟨.p st.hp.length 0, .new st.hp.length ⟨T, l⟩, _, fun ρ a w H next Q hr hR hon hk => ?_, hpF_none _, (hpF_new _ _).symm, h⟩
      obtain ⟨h1, h2⟩ := cellsOf_R hc (hr.ev (x := x) (by simp [ho, Op.operands]))
      have hrun : (execOp a.eval o).run P w = .ok (.value (.pointer (some ⟨w.heap.size, 0, none⟩))) (w.alloc (.cells (a.eval x).cells T (0, 0))) := by
        simp only [execOp, ho, Instr.box]
        rfl
      exact upon_value' hrun (hk _ _ _ (Ext.new (hR.dom _ hon) _) (R_p 0 (by simp [rnew])) (hR.new hon h1 h2))
  | load t x =>
    simp only [ho] at h
    split at h
    · rename_i k i hki
      split at h
      · rename_i av hl
        unfold loadX at hl
        cases hb : st.hp[k]? with
        | none => simp [hb] at hl
        | some b =>
          simp only [hb] at hl
          refine ⟨av, .val [(k, b)], st.hp, fun ρ a w H next Q hr hR hon hk => ?_, (fun q hq => by simp at hq; subst hq; exact hb), rfl, h⟩
          have hx := hr.ev (x := x) (by simp [ho, Op.operands])
          rw [hki] at hx
          obtain ⟨n, hn, hx⟩ := hx
          obtain ⟨v, hv, hr'⟩ := loadB_run hR hn (hon (k, b) (by simp)) hl
          refine upon_value' (v := v) ?_ (hk _ _ w (Ext.refl ρ) hr' hR)
          simp only [execOp, ho, hx, Instr.loadAt, Sem.run_bind, run_sure, Result.andThen_ok, hv]
          rfl
      · exact h.elim
    · exact h.elim
  | store t x y =>
    simp only [ho] at h
    split at h
    · rename_i k i hki
      split at h
      · rename_i hp' hl
        unfold storeX at hl
        cases hb : st.hp[k]? with
        | none => simp [hb] at hl
        | some b =>
          simp only [hb] at hl
          cases hy : storeB P b t i (ev st.tm y) with
          | none => simp [hy] at hl
          | some c =>
            simp only [hy, Option.some.injEq] at hl
            subst hl
            refine ⟨.v undef, .put k b c, _, fun ρ a w H next Q hr hR hon hk => ?_, hb, (hpF_bset _ hb _).symm, h⟩
            have hx := hr.ev (x := x) (by simp [ho, Op.operands])
            rw [hki] at hx
            obtain ⟨n, hn, hx⟩ := hx
            obtain ⟨w', hw', hr'⟩ := storeB_run hR hn hon (hr.ev (x := y) (by simp [ho, Op.operands])) hy
            unfold Oper.wp
            have hrun : (execOp a.eval o).run P w = .ok .skip w' := by
              simp only [execOp, ho, hx, Instr.storeAt, Sem.run_bind, run_sure, Result.andThen_ok, hw']
              rfl
            rw [hrun]
            exact hk _ _ _ (Ext.refl ρ) (R_v undef) hr'
      · exact h.elim
    · exact h.elim
  | buildSlice t len parts =>
    simp only [ho] at h
    split at h
    · rename_i e cells hp
      refine ⟨.s st.hp.length 0 len len, .new st.hp.length ⟨e, cells.toList.map .v⟩, _, fun ρ a w H next Q hr hR hon hk => ?_, hpF_none _, (hpF_new _ _).symm, h⟩
      have hrun := partsX_run (a := a) hp (fun q hq hv => evV_eq' (hr.ev (x := q.2) (by rw [ho]; simp only [Op.operands]; simpa using ⟨q.1, by simpa using hq⟩)) hv) w
      refine upon_value' (v := .slice (some ⟨w.heap.size, 0, none⟩) len len) (w' := w.alloc (.cells cells e)) ?_ (hk _ _ _ (Ext.new (hR.dom _ hon) _) (R_s 0 len len (by simp [rnew])) (hR.new hon (by simp) (fun q hq => by rw [lget_map _ _ (by simpa using hq)]; show _ = _; simp [List.getD, Array.getD_eq_getD_getElem?])))
      simp only [execOp, ho, Sem.run_bind, hrun, Result.andThen_ok]
      rfl
    · exact h.elim
  | _ => simp only [ho] at h; exact other (by rw [ho]; rfl) h

/-- The operations of a region whose order is open, in the text's order; at the end: no two that matter to one another are free to come either way. -/
def dopsX (P : Program) (Γ : List (FuncId × FSpec)) (ops : Array Oper) (all : List Oper) : List Oper → List (List Nat × List Nat) → AS → (AS → Prop) → Prop
  | [], fps, st, K => bif pairsB .any ops fps.reverse then K st else False
  | o :: rest, fps, st, K => wantX all st o (fun st => dopX P Γ o st fun av hp fp => dopsX P Γ ops all rest (fp :: fps) ⟨dput st.tm o.dst av, hp⟩ K)
      (fun st => dopsX P Γ ops all rest (([], []) :: fps) ⟨dput st.tm o.dst (.v undef), st.hp⟩ K)
theorem lset_self : ∀ (l : List AV) (n : Nat), lset l n (lget l n) = l
  | [], _ => rfl
  | _ :: l, 0 => rfl
  | x :: l, n + 1 => by simp [lset, lget, lset_self l n]
theorem wantX_ways {ops : Array Oper} {st : AS} {o : Oper} {yes no : AS → Prop} (h : wantX ops.toList st o yes no) : (Wd ops o st.tm true ∧ yes st) ∨ (Wd ops o st.tm false ∧ no st) := by
  unfold wantX at h
  cases hg : o.guard with
  | none =>
    simp only [hg] at h
    exact .inl ⟨fun ρ a hr => by unfold Region.wanted; rw [hg], h⟩
  | some jw =>
    obtain ⟨j, want⟩ := jw
    simp only [hg] at h
    rw [lnth_eq] at h
    cases hj : ops.toList[j]? with
    | none =>
      have hj' : ops[j]? = none := by simpa using hj
      simp only [hj] at h
      exact .inr ⟨fun ρ a hr => by unfold Region.wanted; simp [hg, yielded, hj'], h⟩
    | some g =>
      have hj' : ops[j]? = some g := by simpa using hj
      simp only [hj] at h
      cases hd : g.dst with
      | none =>
        simp only [hd] at h
        exact .inr ⟨fun ρ a hr => by unfold Region.wanted; simp [hg, yielded, hj', hd], h⟩
      | some d =>
        simp only [hd] at h
        have hmem : d ∈ o.looksAt ops := by
          unfold Oper.looksAt
          refine List.mem_append.2 (.inr ?_)
          simp [hg, hj', hd]
        have hself := lset_self st.tm d
        cases hl : lget st.tm d with
        | v x =>
          simp only [hl] at h
          have hv : ∀ ρ a, RTo ops o ρ st.tm a → a.tmps.getD d undef = x := fun ρ a hr => by
            have := hr d hmem; rw [hl] at this; exact this
          have hwd : ∀ b, (boolOf x == some want) = b → Wd ops o st.tm b := fun b e ρ a hr => by
            unfold Region.wanted
            simp only [hg]
            rw [yielded_some hj' hd, hv ρ a hr]
            exact e
          rw [hl] at hself
          cases x with
          | bool b =>
            cases b <;> cases want <;> simp only [bcase, cond_true, cond_false, hself] at h
            · exact .inl ⟨hwd _ rfl, h⟩
            · exact .inr ⟨hwd _ rfl, h⟩
            · exact .inr ⟨hwd _ rfl, h⟩
            · exact .inl ⟨hwd _ rfl, h⟩
          | _ => exact .inr ⟨hwd _ rfl, h⟩
        | p k i => simp only [hl] at h
        | c f l => simp only [hl] at h
        | s k o n c => simp only [hl] at h
        | any => simp only [hl] at h
theorem dopsX_run {Φ : World → Prop} {Γ : List (FuncId × FSpec)} (hΓ : Sound P Φ Γ) (hΦ : ∀ w, Below B w0 w → B ≤ w.heap.size → Φ w) {ops : Array Oper} {K : AS → Prop} :
    ∀ (rest : List Oper) (k : Nat) (fps : List (List Nat × List Nat)) (st : AS), dopsX P Γ ops ops.toList rest fps st K →
    ∃ L : List (AV × Kd), L.length = rest.length ∧ pairsB .any ops (fps.reverse ++ L.map (·.2.fp)) = true ∧
      ∀ (α : Nat → AV) (kd : Nat → Kd), (∀ i x, L[i]? = some x → α (k + i) = x.1 ∧ kd (k + i) = x.2) →
        runD P B w0 ops α kd (fun tm H => ∃ st' : AS, st'.tm = tm ∧ hpF st'.hp = H ∧ K st') rest k st.tm (hpF st.hp)
  | [], k, fps, st, h => by
    simp only [dopsX] at h
    cases hb : pairsB .any ops fps.reverse with
    | false => simp [hb] at h
    | true =>
      simp only [hb, cond_true] at h
      exact ⟨[], rfl, by simpa using hb, fun α kd _ => ⟨st, rfl, rfl, h⟩⟩
  | o :: rest, k, fps, st, h => by
    simp only [dopsX] at h
    rcases wantX_ways h with ⟨hw, h⟩ | ⟨hw, h⟩
    · obtain ⟨α0, kd0, hp', h1, h2, h3, h4⟩ := dopX_sound (B := B) (w0 := w0) (ops := ops) hΓ hΦ h
      obtain ⟨L, l1, l2, l3⟩ := dopsX_run hΓ hΦ rest (k + 1) _ _ h4
      refine ⟨(α0, kd0) :: L, by simp [l1], by simpa using l2, fun α kd hα => ?_⟩
      obtain ⟨e1, e2⟩ := hα 0 _ rfl
      simp only [Nat.add_zero] at e1 e2
      refine ⟨.inl ⟨hw, by rw [e1, e2]; exact h1⟩, by rw [e2]; exact h2, ?_⟩
      rw [e1, e2, h3]
      exact l3 α kd fun i x hx => by have := hα (i + 1) x (by simpa using hx); rwa [show k + (i + 1) = k + 1 + i by omega] at this
    · obtain ⟨L, l1, l2, l3⟩ := dopsX_run hΓ hΦ rest (k + 1) _ _ h
      refine ⟨(.v undef, .val []) :: L, by simp [l1], by simpa [Kd.fp, Kd.reads, Kd.writes] using l2, fun α kd hα => ?_⟩
      obtain ⟨e1, e2⟩ := hα 0 _ rfl
      simp only [Nat.add_zero] at e1 e2
      refine ⟨.inr ⟨hw, e1, e2⟩, by rw [e2]; exact (fun q hq => by cases hq), ?_⟩
      rw [e1, e2]
      exact l3 α kd fun i x hx => by have := hα (i + 1) x (by simpa using hx); rwa [show k + (i + 1) = k + 1 + i by omega] at this
theorem pairsB_spec {md : Region.Mode} {ops : Array Oper} {fps : List (List Nat × List Nat)} (h : pairsB md ops fps = true) {i j : Nat} (hij : i < j) {x y : List Nat × List Nat}
    (hx : fps[i]? = some x) (hy : fps[j]? = some y) (hw : waitsA (ancL md ops.toList []) i j = false) : indepF x y = true := by
  unfold pairsB pairsA at h
  have h1 := List.all_eq_true.1 h (x, i) (List.mem_iff_getElem?.2 ⟨i, by rw [List.getElem?_zipIdx, hx]; simp⟩)
  have h2 := List.all_eq_true.1 h1 (y, j) (List.mem_iff_getElem?.2 ⟨j - (i + 1), by
    rw [List.getElem?_drop, show i + 1 + (j - (i + 1)) = j by omega, List.getElem?_zipIdx, hy]; simp⟩)
  simp only [Bool.or_eq_true] at h2
  rcases h2 with q | q
  · exact q
  · rw [hw] at q; cases q
theorem dregion_sound {Φ : World → Prop} {Γ : List (FuncId × FSpec)} (hΓ : Sound P Φ Γ) (hΦ : ∀ w, Below B w0 w → B ≤ w.heap.size → Φ w) {ops : Array Oper} {id : Nat} {K : AS → Prop} {Q : Exit → Act → World → Prop} {st : AS} {a : Act}
    (hm : P.follows .mixedOrders = true) (hB : Region.lexB .any ops = true) (hT : RT ρ st.tm a.tmps) (hd : a.defers = []) (hR : Rel B w0 ρ (hpF st.hp) w) (h : dopsX P Γ ops ops.toList ops.toList [] st K)
    (hk : ∀ st' a' w' ρ', Ext ρ ρ' → RT ρ' st'.tm a'.tmps → a'.defers = [] → Rel B w0 ρ' (hpF st'.hp) w' → K st' → Q .normal a' w') : (Code.region id ops true).wp P Q a w := by
  obtain ⟨L, l1, l2, l3⟩ := dopsX_run (B := B) (w0 := w0) hΓ hΦ ops.toList 0 [] st h
  simp only [Region.lexB, Bool.and_eq_true] at hB
  let α : Nat → AV := fun i => (L.getD i (.any, .val [])).1
  let kd : Nat → Kd := fun i => (L.getD i (.any, .val [])).2
  have hrun := l3 α kd fun i x hx => by simp [α, kd, List.getD, hx]
  refine wp_region_any hm ?_
  have hlex := anyD_lex (md := .any) (ops := ops) (P := P) (B := B) (w0 := w0) (α := α) (kd := kd) (Fin := fun tm H => ∃ st' : AS, st'.tm = tm ∧ hpF st'.hp = H ∧ K st') (fun i j hij hj hw => by
      have hi' : i < L.length := by rw [l1]; simp; omega
      have hj' : j < L.length := by rw [l1]; simpa using hj
      have e : ∀ q, q < L.length → (L.map (·.2.fp))[q]? = some (kd q).fp := fun q hq => by
        simp [kd, List.getD, List.getElem?_eq_getElem hq]
      exact pairsB_spec (by simpa using l2) hij (e i hi') (e j hj') hw)
    ops.toList 0 (Array.replicate ops.size false) st.tm (hpF st.hp) (fun j => by simp) ⟨by simp, fun j oj hj hl => by rw [getD_rep] at hl; cases hl⟩ (fun j hj => by omega) (by simpa using hB.2) hrun
  have := anyD_sound (md := .any) (Q := Q) (ρ0 := ρ) (fun tm H ρ' a' w' hf h1 h2 h3 h4 => by
    obtain ⟨st', rfl, rfl, hK⟩ := hf
    exact hk st' a' w' ρ' h4 h1 h2 h3 hK) _ _ _ _ ρ a { w with drawn := w.drawn + 1 } (Ext.refl ρ) hT hd (hR.drawn _) hlex
  simpa using this
end
section
variable {P : Program} {B : Nat} {w0 w : World} {ρ : Nat → Option Nat} {hp : List Blk}

/-! Lesser knowledge. -/
def AV.le : AV → AV → Prop
  | _, .any => True
  | .v x, .v y => x = y
  | .p k o, .p l q => k = l ∧ o = q
  | .c f l, .c g m => f = g ∧ l = m
  | .s k o n d, .s l q m e => (k = l ∧ o = q) ∧ n = m ∧ d = e
  | _, _ => False
def tmLe : List AV → List AV → Prop
  | [], [] => True
  | a :: l, b :: m => a.le b ∧ tmLe l m
  | _, _ => False
def hpLe : List Blk → List Blk → Prop
  | _, [] => True
  | a :: l, b :: m => a.T = b.T ∧ tmLe a.cs b.cs ∧ hpLe l m
  | [], _ :: _ => False
def avFits (n : Nat) : AV → Bool
  | .p k _ => Nat.blt k n
  | .c _ l => l.all fun q => Nat.blt q.1 n
  | .s k _ _ _ => Nat.blt k n
  | _ => true
def tmFits (n : Nat) (l : List AV) : Bool := l.all (avFits n)
def hpFits (n : Nat) (l : List Blk) : Bool := l.all fun b => tmFits n b.cs
theorem AV.le_R {a b : AV} (h : a.le b) {v : Value} (hr : a.R ρ v) : b.R ρ v := by
  cases a <;> cases b <;> simp only [AV.le] at h <;> first | trivial | (subst h; exact hr) | (obtain ⟨rfl, rfl⟩ := h; exact hr) | (obtain ⟨⟨rfl, rfl⟩, rfl, rfl⟩ := h; exact hr)
def cut (ρ : Nat → Option Nat) (n : Nat) : Nat → Option Nat := fun k => if k < n then ρ k else none
theorem take_get {n k b : Nat} (h : ρ k = some b) (hk : k < n) : (cut ρ n) k = some b := by
  unfold cut
  rw [if_pos hk, h]
theorem avFits_R {n : Nat} {a : AV} (h : avFits n a = true) {v : Value} (hr : a.R ρ v) : a.R (cut ρ n) v := by
  cases a with
  | v x => exact hr
  | any => trivial
  | p k o =>
    obtain ⟨m, h1, rfl⟩ := hr
    exact ⟨m, take_get h1 (Nat.le_of_ble_eq_true h), rfl⟩
  | s k o i c =>
    obtain ⟨m, h1, rfl⟩ := hr
    exact ⟨m, take_get h1 (Nat.le_of_ble_eq_true h), rfl⟩
  | c f l =>
    obtain ⟨r, h1, rfl⟩ := hr
    refine ⟨r, ?_, rfl⟩
    simp only [avFits] at h
    induction l generalizing r with
    | nil => exact h1
    | cons q l ih =>
      obtain ⟨k, o⟩ := q
      simp only [List.all_cons, Bool.and_eq_true] at h
      simp only [ptrs] at h1 ⊢
      cases e1 : ρ k with
      | none => simp [e1] at h1
      | some b =>
        cases e2 : ptrs ρ l with
        | none => simp [e1, e2] at h1
        | some r' =>
          simp [e1, e2] at h1
          rw [take_get e1 (Nat.le_of_ble_eq_true h.1), ih h.2 r' e2]
          simp [h1]
theorem tmLe_length : ∀ {l m : List AV}, tmLe l m → l.length = m.length
  | [], [], _ => rfl
  | _ :: l, _ :: m, h => by simp [tmLe_length h.2]
  | [], _ :: _, h => h.elim
  | _ :: _, [], h => h.elim
theorem tmLe_get : ∀ {l m : List AV}, tmLe l m → ∀ i, (lget l i).le (lget m i)
  | [], [], _, i => by simp [lget, AV.le]
  | _ :: l, _ :: m, h, 0 => h.1
  | _ :: l, _ :: m, h, i + 1 => tmLe_get h.2 i
  | [], _ :: _, h, _ => h.elim
  | _ :: _, [], h, _ => h.elim
theorem tmFits_get {n : Nat} : ∀ {l : List AV}, tmFits n l = true → ∀ i, avFits n (lget l i) = true
  | [], _, i => by simp [lget, avFits]
  | _ :: l, h, 0 => by simp [tmFits] at h; exact h.1
  | a :: l, h, i + 1 => by
    simp [tmFits] at h
    exact tmFits_get (l := l) (by simpa [tmFits] using h.2) i
theorem RT.less {tm tm' : List AV} {t : Array Value} {n : Nat} (h : RT ρ tm t) (hl : tmLe tm tm') (hf : tmFits n tm' = true) : RT (cut ρ n) tm' t :=
  ⟨by rw [← tmLe_length hl]; exact h.1, fun i => avFits_R (tmFits_get hf i) (AV.le_R (tmLe_get hl i) (h.2 i))⟩
theorem hpLe_get : ∀ {l m : List Blk}, hpLe l m → ∀ {k : Nat} {b : Blk}, m[k]? = some b → ∃ a : Blk, l[k]? = some a ∧ a.T = b.T ∧ tmLe a.cs b.cs
  | _, [], _, k, b, hb => by simp at hb
  | a :: l, c :: m, h, 0, b, hb => by simp at hb; subst hb; exact ⟨a, rfl, h.1, h.2.1⟩
  | a :: l, c :: m, h, k + 1, b, hb => by simpa using hpLe_get h.2.2 (k := k) (by simpa using hb)
  | [], _ :: _, h, _, _, _ => h.elim
theorem hpLe_length : ∀ {l m : List Blk}, hpLe l m → m.length ≤ l.length
  | _, [], _ => by simp
  | _ :: l, _ :: m, h => by simpa using hpLe_length h.2.2
  | [], _ :: _, h => h.elim
theorem Rel.less (h : Rel B w0 ρ (hpF hp) w) {hp' : List Blk} (hl : hpLe hp hp') (hf : hpFits hp'.length hp' = true) : Rel B w0 (cut ρ hp'.length) (hpF hp') w := by
  have hlen := hpLe_length hl
  have sub : ∀ {i b}, (cut ρ hp'.length) i = some b → ρ i = some b := fun {i b} e => by
    unfold cut at e
    split at e
    · exact e
    · cases e
  refine ⟨h.below, h.base, fun k hk => ?_, fun i j b hi hj => h.inj i j b (sub hi) (sub hj), fun k b x hk hx => ?_, fun k x hx => ?_⟩
  · unfold cut
    rw [if_neg]
    intro hlt
    have : hp'[k]? = none := hk
    rw [List.getElem?_eq_getElem hlt] at this
    cases this
  · obtain ⟨y, hy, e1, e2⟩ := hpLe_get hl hx
    obtain ⟨h0, cs, h1, h2, h3⟩ := h.blk k b y (sub hk) hy
    have e3 := tmLe_length e2
    refine ⟨h0, cs, by rw [← e1]; exact h1, by rw [← e3]; exact h2, fun o ho => ?_⟩
    have hfx : tmFits hp'.length x.cs = true := by
      unfold hpFits at hf
      exact List.all_eq_true.1 hf x (List.mem_of_getElem? hx)
    exact avFits_R (tmFits_get hfx o) (AV.le_R (tmLe_get e2 o) (h3 o (by omega)))
  · obtain ⟨y, hy, _⟩ := hpLe_get hl hx
    obtain ⟨n, hn⟩ := h.lies k y hy
    have hx' : hp'[k]? = some x := hx
    exact ⟨n, take_get hn (List.getElem?_eq_some_iff.1 hx').1⟩

/-- What holds at a loop's head: a family of states. -/
structure Ann where
  σ : Type
  st : AS → σ → AS
  inv : AS → σ → Prop
  μ : AS → σ → Nat
inductive X where
  | normal
  | exit (id : Nat)
  | ret
def X.out : X → Exit
  | .normal => .normal
  | .exit id => .exit id
  | .ret => .ret
def stLe (st t : AS) : Prop := tmLe st.tm t.tm ∧ hpLe st.hp t.hp ∧ tmFits t.hp.length t.tm = true ∧ hpFits t.hp.length t.hp = true
/-- How a loop is taken: by what holds at its head, or by so many rounds at most, each walked. -/
inductive LoopBy where
  | ann (a : Ann)
  | times (n : Nat)
def annOf (A : List (Nat × LoopBy)) (n : Nat) : Option LoopBy :=
  match A with
  | [] => none
  | (m, a) :: l => bif Nat.beq m n then some a else annOf l n
def thenX (K : X → AS → Prop) (next : AS → Prop) : X → AS → Prop
  | .normal, st => next st
  | e, st => K e st
def blockX (id : Nat) (K : X → AS → Prop) : X → AS → Prop
  | .exit i, st => bif Nat.beq i id then K .normal st else K (.exit i) st
  | e, st => K e st
def unroll (body : AS → (X → AS → Prop) → Prop) (K : X → AS → Prop) : Nat → AS → Prop
  | 0, _ => False
  | n + 1, st => body st (thenX K (unroll body K n))
/-- A statement, by its own text; a loop by what is said of the block 'cur' around it. -/
def codeX (P : Program) (Γ : List (FuncId × FSpec)) (inl : Inl) (A : List (Nat × LoopBy)) : Nat → Code → AS → (X → AS → Prop) → Prop
  | _, .skip, st, K => K .normal st
  | _, .label _, st, K => K .normal st
  | _, .region _ ops draw, st, K =>
    bif draw then
      bif P.follows .mixedOrders && Region.lexB .any ops then dopsX P Γ ops ops.toList ops.toList [] st (K .normal) else False
    else opsX P Γ inl ops.toList ops.toList st (K .normal)
  | cur, .seq a b, st, K => codeX P Γ inl A cur a st (thenX K fun st' => codeX P Γ inl A cur b st' K)
  | cur, .cond c x y, st, K =>
    match ev st.tm c with
    | .v (.bool b) =>
      match c with
      | .tmp t => bcase b (codeX P Γ inl A cur x ⟨lset st.tm t (.v (.bool true)), st.hp⟩ K) (codeX P Γ inl A cur y ⟨lset st.tm t (.v (.bool false)), st.hp⟩ K)
      | _ => bcase b (codeX P Γ inl A cur x st K) (codeX P Γ inl A cur y st K)
    | _ => False
  | _, .block id c, st, K => codeX P Γ inl A id c st (blockX id K)
  | cur, .loop c, st, K =>
    match annOf A cur with
    | some (.times n) => unroll (fun st K => codeX P Γ inl A cur c st K) K n st
    | some (.ann a) => ∃ s, stLe st (a.st st s) ∧ a.inv st s ∧ ∀ s, a.inv st s → (Nat.ble st.hp.length (a.st st s).hp.length = true) ∧
        codeX P Γ inl A cur c (a.st st s) (thenX K fun st' => ∃ s', stLe st' (a.st st s') ∧ a.inv st s' ∧ a.μ st s' < a.μ st s)
    | none => False
  | _, .exit id, st, K => K (.exit id) st
  | _, .ret, st, K => K .ret st
  | _, _, _, _ => False

theorem wp_loop' {Q : Exit → Act → World → Prop} {c : Code} (M : Nat → Act → World → Prop)
    (round : ∀ n a w, M n a w → c.wp P (Exit.then (fun a' w' => ∃ m, m < n ∧ M m a' w') Q) a w) {n : Nat} {a : Act} {w : World} (h₀ : M n a w) : (Code.loop c).wp P Q a w := by
  intro b k cs
  have key : ∀ n a w, M n a w → ∃ e a' w', Q e a' w' ∧ Arrives P (lone (b.at a (.code c :: .inLoop c :: k)) cs w) b k cs e a' w' := by
    intro n
    induction n using Nat.strongRecOn with
    | _ n ih =>
      intro a w hI
      obtain ⟨e, a₁, w₁, hq, harr⟩ := round n a w hI b (.inLoop c :: k) cs
      cases e with
      | normal =>
        obtain ⟨m, hlt, hI₁⟩ := hq
        obtain ⟨e₂, a₂, w₂, hq₂, harr₂⟩ := ih m hlt a₁ w₁ hI₁
        exact ⟨e₂, a₂, w₂, hq₂, .of_steps (Steps.trans harr (.one step_inLoop)) harr₂⟩
      | exit id => exact ⟨_, a₁, w₁, hq, .pass (x := .inLoop c) rfl (fun _ _ => .inl (by simp)) harr⟩
      | goto l => exact ⟨_, a₁, w₁, hq, .pass (x := .inLoop c) rfl (fun _ _ => .inl (by simp)) harr⟩
      | ret => exact ⟨_, a₁, w₁, hq, .pass (x := .inLoop c) rfl (fun _ _ => .inl (by simp)) harr⟩
      | panic ch => exact ⟨_, a₁, w₁, hq, .pass (x := .inLoop c) rfl (fun _ _ => .inl (by simp)) harr⟩
      | outgrown => exact ⟨_, a₁, w₁, hq, .pass (x := .inLoop c) rfl (fun _ _ => .inl (by simp)) harr⟩
  obtain ⟨e, a', w', hq, harr⟩ := key n a w h₀
  exact ⟨e, a', w', hq, .of_steps (.one step_loop) harr⟩
/-- What is asked behind a statement. -/
def Post (B : Nat) (w0 : World) (ρ : Nat → Option Nat) (K : X → AS → Prop) (Q : Exit → Act → World → Prop) : Prop :=
  ∀ e st' a' w' ρ', Ext ρ ρ' → RT ρ' st'.tm a'.tmps → a'.defers = [] → Rel B w0 ρ' (hpF st'.hp) w' → K e st' → Q e.out a' w'
theorem codeX_sound {Φ : World → Prop} {Γ : List (FuncId × FSpec)} {inl : Inl} (hΓ : Sound P Φ Γ) (hΦ : ∀ w, Below B w0 w → B ≤ w.heap.size → Φ w) (hi : InlSound P B w0 inl) {A : List (Nat × LoopBy)} :
    ∀ (c : Code) (cur : Nat) {st : AS} {K : X → AS → Prop} {a : Act} {w : World} {ρ : Nat → Option Nat} {Q : Exit → Act → World → Prop},
      RT ρ st.tm a.tmps → a.defers = [] → Rel B w0 ρ (hpF st.hp) w → codeX P Γ inl A cur c st K → Post B w0 ρ K Q → c.wp P Q a w := by
  intro c
  induction c with
  | skip => intro cur st K a w ρ Q hT hd hR h hk; exact wp_skip (hk .normal st a w ρ (Ext.refl ρ) hT hd hR h)
  | label l => intro cur st K a w ρ Q hT hd hR h hk; exact wp_label (hk .normal st a w ρ (Ext.refl ρ) hT hd hR h)
  | ret => intro cur st K a w ρ Q hT hd hR h hk; exact wp_ret (hk .ret st a w ρ (Ext.refl ρ) hT hd hR h)
  | exit id => intro cur st K a w ρ Q hT hd hR h hk; exact wp_exit (hk (.exit id) st a w ρ (Ext.refl ρ) hT hd hR h)
  | region id ops draw =>
    intro cur st K a w ρ Q hT hd hR h hk
    cases draw with
    | false =>
      simp only [codeX, cond_false] at h
      refine wp_region ?_
      have := opsX_sound (Q := Q) hΓ hΦ hi ops.toList 0 (fun j => by simp) hT hd hR h (fun st' a' w' ρ' h1 h2 h3 h4 h5 => hk .normal st' a' w' ρ' h1 h2 h3 h4 h5)
      simpa [List.range_eq_range'] using this
    | true =>
      simp only [codeX, cond_true] at h
      cases hb : (P.follows .mixedOrders && Region.lexB .any ops) with
      | false => simp [hb] at h
      | true =>
        simp only [hb, cond_true] at h
        simp only [Bool.and_eq_true] at hb
        exact dregion_sound hΓ hΦ hb.1 hb.2 hT hd hR h fun st' a' w' ρ' h1 h2 h3 h4 h5 => hk .normal st' a' w' ρ' h1 h2 h3 h4 h5
  | seq x y ihx ihy =>
    intro cur st K a w ρ Q hT hd hR h hk
    simp only [codeX] at h
    refine wp_seq (ihx cur hT hd hR h ?_)
    intro e st' a' w' ρ' h1 h2 h3 h4 h5
    cases e with
    | normal => exact ihy cur h2 h3 h4 h5 fun e2 s2 a2 w2 ρ2 k1 k2 k3 k4 k5 => hk e2 s2 a2 w2 ρ2 (h1.trans k1) k2 k3 k4 k5
    | exit id => exact hk (.exit id) st' a' w' ρ' h1 h2 h3 h4 h5
    | ret => exact hk .ret st' a' w' ρ' h1 h2 h3 h4 h5
  | cond c x y ihx ihy =>
    intro cur st K a w ρ Q hT hd hR h hk
    simp only [codeX] at h
    have hc := ev_R hT c
    split at h
    · rename_i b hb
      rw [hb] at hc
      have hc : a.eval c = .bool b := hc
      split at h
      · rename_i t _
        have hkn := hT.known (d := t) hb
        cases b with
        | true => exact wp_cond_true hc (ihx cur (st := ⟨lset st.tm t (.v (.bool true)), st.hp⟩) hkn hd hR h hk)
        | false => exact wp_cond_false hc (ihy cur (st := ⟨lset st.tm t (.v (.bool false)), st.hp⟩) hkn hd hR h hk)
      · cases b with
        | true => exact wp_cond_true hc (ihx cur hT hd hR h hk)
        | false => exact wp_cond_false hc (ihy cur hT hd hR h hk)
    · exact h.elim
  | block id c ih =>
    intro cur st K a w ρ Q hT hd hR h hk
    simp only [codeX] at h
    refine wp_block (ih id hT hd hR h ?_)
    intro e st' a' w' ρ' h1 h2 h3 h4 h5
    cases e with
    | normal => exact hk .normal st' a' w' ρ' h1 h2 h3 h4 h5
    | ret => exact hk .ret st' a' w' ρ' h1 h2 h3 h4 h5
    | exit i =>
      simp only [blockX] at h5
      show (if i = id then Q .normal a' w' else Q (.exit i) a' w')
      by_cases hid : i = id
      · subst hid
        simp only [Nat.beq_refl, cond_true] at h5
        rw [if_pos rfl]
        exact hk .normal st' a' w' ρ' h1 h2 h3 h4 h5
      · have : Nat.beq i id = false := by
          cases e : Nat.beq i id with
          | false => rfl
          | true => exact absurd (Nat.eq_of_beq_eq_true e) hid
        simp only [this, cond_false] at h5
        rw [if_neg hid]
        exact hk (.exit i) st' a' w' ρ' h1 h2 h3 h4 h5
  | loop c ih =>
    intro cur st K a w ρ Q hT hd hR h hk
    simp only [codeX] at h
    cases ha : annOf A cur with
    | none => simp [ha] at h
    | some nn =>
     cases nn with
     | times n =>
      simp only [ha] at h
      refine wp_loop' (fun m a' w' => ∃ st' ρ', Ext ρ ρ' ∧ RT ρ' st'.tm a'.tmps ∧ a'.defers = [] ∧ Rel B w0 ρ' (hpF st'.hp) w' ∧ unroll (fun st K => codeX P Γ inl A cur c st K) K m st') (fun m a' w' hM => ?_) (n := n) ⟨st, ρ, Ext.refl ρ, hT, hd, hR, h⟩
      obtain ⟨st', ρ', p1, p3, p4, p5, p6⟩ := hM
      cases m with
      | zero => exact p6.elim
      | succ m =>
        simp only [unroll] at p6
        refine ih cur p3 p4 p5 p6 ?_
        intro e st2 a2 w2 ρ2 h1 h2 h3 h4 h5
        cases e with
        | normal => exact ⟨m, by omega, st2, ρ2, p1.trans h1, h2, h3, h4, h5⟩
        | exit id => exact hk (.exit id) st2 a2 w2 ρ2 (p1.trans h1) h2 h3 h4 h5
        | ret => exact hk .ret st2 a2 w2 ρ2 (p1.trans h1) h2 h3 h4 h5
     | ann n =>
      simp only [ha] at h
      obtain ⟨s, hle, hinv, hround⟩ := h
      have hb0 := hround s hinv
      let M : Nat → Act → World → Prop := fun m a' w' => ∃ s' ρ', Ext ρ ρ' ∧ n.inv st s' ∧ RT ρ' (n.st st s').tm a'.tmps ∧ a'.defers = [] ∧ Rel B w0 ρ' (hpF (n.st st s').hp) w' ∧ n.μ st s' = m
      have start : ∀ {s2 : n.σ} {st2 : AS} {a2 : Act} {w2 : World} {ρ2 : Nat → Option Nat}, Ext ρ ρ2 → RT ρ2 st2.tm a2.tmps → a2.defers = [] → Rel B w0 ρ2 (hpF st2.hp) w2 → stLe st2 (n.st st s2) → n.inv st s2 → M (n.μ st s2) a2 w2 := by
        intro s2 st2 a2 w2 ρ2 e3 h2 h3 h4 q1 q2
        obtain ⟨l1, l2, l3, l4⟩ := q1
        refine ⟨s2, cut ρ2 (n.st st s2).hp.length, fun k b e => ?_, q2, h2.less l1 l3, h3, h4.less l2 l4, rfl⟩
        have e1 := Nat.le_of_ble_eq_true (hround s2 q2).1
        refine take_get (e3 k b e) ?_
        rcases Nat.lt_or_ge k st.hp.length with q | q
        · omega
        · have := hR.dom k (List.getElem?_eq_none q)
          rw [this] at e; cases e
      refine wp_loop' M (fun m a' w' hM => ?_) (start (Ext.refl ρ) hT hd hR hle hinv)
      obtain ⟨s', ρ', p1, p2, p3, p4, p5, p6⟩ := hM
      refine ih cur p3 p4 p5 (hround s' p2).2 ?_
      intro e st2 a2 w2 ρ2 h1 h2 h3 h4 h5
      cases e with
      | normal =>
        obtain ⟨s2, q1, q2, q3⟩ := h5
        exact ⟨n.μ st s2, by omega, start (p1.trans h1) h2 h3 h4 q1 q2⟩
      | exit id => exact hk (.exit id) st2 a2 w2 ρ2 (p1.trans h1) h2 h3 h4 h5
      | ret => exact hk .ret st2 a2 w2 ρ2 (p1.trans h1) h2 h3 h4 h5
  | _ => intro cur st K a w ρ Q hT hd hR h hk; simp only [codeX] at h
end
section
variable {P : Program} {B : Nat} {w0 w : World} {ρ : Nat → Option Nat} {hp : List Blk}

/-- The results of a call. -/
def resX (P : Program) (st : AS) : List ResultVar → Option (List AV)
  | [] => some []
  | .tmp t :: l => match resX P st l with | some r => some (lget st.tm t :: r) | none => none
  | .cell c t :: l =>
    match lget st.tm c with
    | .p k o => match loadX P st.hp t k o, resX P st l with | some a, some r => some (a :: r) | _, _ => none
    | _ => none
def oneX : List AV → Option AV
  | [a] => some a
  | l => match vals l with | some r => some (.v (.tuple r.toArray)) | none => none
def repl : Nat → List AV
  | 0 => []
  | n + 1 => .v undef :: repl n
/-- A call, by the callee's own text. -/
def runX (P : Program) (Γ : List (FuncId × FSpec)) (A : FuncId → List (Nat × LoopBy)) : Nat → Inl
  | 0, _, _, _, _ => False
  | n + 1, g, args, hp, K =>
    match P.funcs[g]? with
    | some fn =>
      match fn.body with
      | some c =>
        bif fn.name == "runtime.NumGoroutine" then False else
        codeX P Γ (runX P Γ A n) (A g) 0 c ⟨args ++ repl (fn.ntmps - args.length), hp⟩ (fun e st =>
          match e with
          | .exit _ => False
          | _ => match resX P st fn.results.toList with
            | some l => match oneX l with | some a => K a st.hp | none => False
            | none => False)
      | none => False
    | none => False

theorem resX_run (h : Rel B w0 ρ (hpF hp) w) {st : AS} {a : Act} (e : st.hp = hp) (hT : RT ρ st.tm a.tmps) (f : ResultVar → Sem Value)
    (hf : ∀ x, f x = match x with | .tmp t => pure (a.tmps.getD t undef) | .cell c t => do loadVar t (← asAddr (a.tmps.getD c undef))) :
    ∀ {l : List ResultVar} {r : List AV}, resX P st l = some r → ∃ vs, (l.mapM f).run P w = .ok vs w ∧ RL ρ r vs
  | [], r, hr => by
    simp [resX] at hr; subst hr
    exact ⟨[], by rw [List.mapM_nil]; rfl, trivial⟩
  | .tmp t :: l, r, hr => by
    simp only [resX] at hr
    cases e1 : resX P st l with
    | none => simp [e1] at hr
    | some r' =>
      simp [e1] at hr
      subst hr
      obtain ⟨vs, h1, h2⟩ := resX_run h e hT f hf e1
      refine ⟨a.tmps.getD t undef :: vs, ?_, hT.2 t, h2⟩
      rw [List.mapM_cons, hf]
      show Sem.run P (Sem.bind (Sem.pure _) _) w = _
      show Sem.run P (Sem.bind (l.mapM f) _) w = _
      rw [Sem.run_bind', h1]
      rfl
  | .cell c t :: l, r, hr => by
    simp only [resX] at hr
    have hx := hT.2 c
    split at hr
    · rename_i k o hc
      rw [hc] at hx
      obtain ⟨n, hn, hx⟩ := hx
      cases e0 : loadX P st.hp t k o with
      | none => simp [e0] at hr
      | some av =>
        cases e1 : resX P st l with
        | none => simp [e0, e1] at hr
        | some r' =>
          simp [e0, e1] at hr
          subst hr
          obtain ⟨vs, h1, h2⟩ := resX_run h e hT f hf e1
          rw [e] at e0
          obtain ⟨v, hv, hr⟩ := loadX_run h hn e0
          refine ⟨v :: vs, ?_, hr, h2⟩
          rw [List.mapM_cons, hf]
          simp only [hx]
          show Sem.run P (Sem.bind (loadVar t ⟨n, o, none⟩) _) w = _
          rw [Sem.run_bind', hv]
          show Sem.run P (Sem.bind (l.mapM f) _) w = _
          rw [Sem.run_bind', h1]
          rfl
    · cases hr
theorem oneX_R {l : List AV} {a : AV} {vs : List Value} (h : oneX l = some a) (hr : RL ρ l vs) : a.R ρ (if h : vs.toArray.size = 1 then vs.toArray[0] else .tuple vs.toArray) := by
  unfold oneX at h
  split at h
  · rename_i b
    cases h
    match vs, hr with
    | [v], hr => exact hr.1
    | _ :: _ :: _, hr => exact hr.2.elim
  · rename_i hne
    split at h
    · rename_i r hv
      cases h
      have := vals_R hv hr
      subst this
      have hlen : ¬ vs.toArray.size = 1 := by
        intro e
        have e' : vs.length = 1 := by simpa using e
        have := RL.length hr
        match l, this with
        | [b], _ => exact hne b rfl
        | [], q => simp at q; omega
        | _ :: _ :: _, q => simp at q; omega
      rw [dif_neg hlen]
      rfl
    · cases h
theorem results_run (h : Rel B w0 ρ (hpF hp) w) {st : AS} {a : Act} (e : st.hp = hp) (hT : RT ρ st.tm a.tmps) {fn : Func} {l : List AV} {av : AV}
    (hr : resX P st fn.results.toList = some l) (ho : oneX l = some av) : ∃ v, (results fn a.tmps).run P w = .ok v w ∧ av.R ρ v := by
  unfold results
  obtain ⟨vs, h1, h2⟩ := resX_run h e hT (fun x => match x with | .tmp t => pure (a.tmps.getD t undef) | .cell c t => do loadVar t (← asAddr (a.tmps.getD c undef))) (fun _ => rfl) hr
  refine ⟨_, ?_, oneX_R ho h2⟩
  rw [Array.mapM_eq_mapM_toList]
  rw [Sem.run_bind, Sem.run_map]
  erw [h1]
  rfl
theorem repl_length (n : Nat) : (repl n).length = n := by induction n <;> simp_all [repl]
theorem lget_repl (n i : Nat) : lget (repl n) i = .v undef := by
  induction n generalizing i with
  | zero => rfl
  | succ n ih => cases i <;> simp [repl, lget, ih]
theorem lget_append : ∀ (l m : List AV) (i : Nat), lget (l ++ m) i = if i < l.length then lget l i else lget m (i - l.length)
  | [], m, i => by simp
  | x :: l, m, 0 => by simp [lget]
  | x :: l, m, i + 1 => by simp [lget, lget_append l m i]
theorem RT.enter {args : List AV} {vs : List Value} (h : RL ρ args vs) (n : Nat) :
    RT ρ (args ++ repl (n - args.length)) (vs.toArray ++ Array.replicate (n - vs.toArray.size) undef) := by
  have hl := RL.length h
  refine ⟨by simp [repl_length, hl], fun i => ?_⟩
  rw [lget_append]
  by_cases hi : i < args.length
  · rw [if_pos hi]
    have := RL.get h i
    have e : (vs.toArray ++ Array.replicate (n - vs.toArray.size) undef).getD i undef = vs.getD i undef := by
      simp only [Array.getD_eq_getD_getElem?]
      rw [Array.getElem?_append_left (by simp; omega)]
      simp [List.getD]
    rw [e]
    exact this
  · rw [if_neg hi, lget_repl]
    show _ = _
    simp only [Array.getD_eq_getD_getElem?]
    rw [Array.getElem?_append_right (by simp; omega)]
    simp [Array.getElem?_replicate]
    split <;> rfl
theorem runX_sound {Φ : World → Prop} {Γ : List (FuncId × FSpec)} (hΓ : Sound P Φ Γ) (hΦ : ∀ w, Below B w0 w → B ≤ w.heap.size → Φ w) {A : FuncId → List (Nat × LoopBy)} :
    ∀ n, InlSound P B w0 (runX P Γ A n)
  | 0 => fun g args hp K w ρ vs h => h.elim
  | n + 1 => by
    intro g args hp K w ρ vs h hR ha
    simp only [runX] at h
    cases hf : P.funcs[g]? with
    | none => simp [hf] at h
    | some fn =>
      cases hb : fn.body with
      | none => simp [hf, hb] at h
      | some c =>
        simp only [hf, hb] at h
        cases hn : (fn.name == "runtime.NumGoroutine") with
        | true => simp [hn] at h
        | false =>
          simp only [hn, cond_false] at h
          refine ⟨⟨fn, hf, hn, by rw [hb]; rfl⟩, ?_⟩
          refine calls_of_wp hf hb (codeX_sound hΓ hΦ (runX_sound hΓ hΦ n) c 0 (ρ := ρ) (RT.enter ha fn.ntmps) rfl hR h ?_)
          intro e st' a' w' ρ' h1 h2 h3 h4 h5
          have fin : (match resX P st' fn.results.toList with
            | some l => match oneX l with | some a => K a st'.hp | none => False
            | none => False) → a'.defers = [] ∧ ∃ v, (results fn a'.tmps).run P w' = .ok v w' ∧ (∃ ρ' hp' av u, Ending.returned v = .returned u ∧ Ext ρ ρ' ∧ Rel B w0 ρ' (hpF hp') w' ∧ AV.R ρ' av u ∧ K av hp') := by
            intro h5
            cases hr : resX P st' fn.results.toList with
            | none => simp [hr] at h5
            | some l =>
              cases ho : oneX l with
              | none => simp [hr, ho] at h5
              | some av =>
                simp only [hr, ho] at h5
                obtain ⟨v, hv, hvr⟩ := results_run h4 rfl h2 hr ho
                exact ⟨h3, v, hv, ρ', st'.hp, av, v, rfl, h1, h4, hvr, h5⟩
          cases e with
          | normal => exact fin h5
          | ret => exact fin h5
          | exit id => exact h5.elim
/-- **The contract of a function, out of what its own text reckons.** -/
theorem fn_of_run {Φ : World → Prop} (hst : ∀ w w', Φ w → Below w.heap.size w w' → Φ w') {Γ : List (FuncId × FSpec)} (hΓ : Sound P Φ Γ) (A : FuncId → List (Nat × LoopBy)) (n : Nat) {f : FuncId} {args : List Value} {R : Value → Prop}
    (h : runX P Γ A n f (args.map .v) [] (fun a _ => match a with | .v v => R v | _ => False)) {w : World} (hw : Φ w) :
    Calls P f args.toArray w fun e w' => ∃ v, e = .returned v ∧ R v ∧ Below w.heap.size w w' := by
  have hR : Rel w.heap.size w (fun _ => none) (hpF []) w := ⟨Below.refl _ _, Nat.le_refl _, fun _ _ => rfl, fun i j b h => by simp at h, fun k b h hk => by simp at hk, fun k h hk => by simp [hpF] at hk⟩
  refine (runX_sound (B := w.heap.size) (w0 := w) hΓ (fun w' h1 _ => hst w w' hw h1) n f (args.map .v) [] _ w (fun _ => none) args h hR (RL.vals args)).2.mono ?_
  rintro e w' ⟨ρ', hp', av, v, rfl, h1, h2, h3, h4⟩
  cases av with
  | v x => have h3 : v = x := h3; subst h3; exact ⟨v, rfl, h4, h2.below⟩
  | _ => exact h4.elim
theorem fn_eq {Φ : World → Prop} (hst : ∀ w w', Φ w → Below w.heap.size w w' → Φ w') {Γ : List (FuncId × FSpec)} (hΓ : Sound P Φ Γ) (A : FuncId → List (Nat × LoopBy)) (n : Nat) {f : FuncId} {args : List Value} {u : Value}
    (h : runX P Γ A n f (args.map .v) [] (fun a _ => match a with | .v v => v = u | _ => False)) : Ans P Φ f args u := by
  intro w hw
  refine (fn_of_run hst hΓ A n h hw).mono ?_
  rintro e w' ⟨v, rfl, rfl, hb⟩
  exact ⟨rfl, hb⟩
/-- The answer is a value. -/
def ansX (K : Value → Prop) : AV → List Blk → Prop := fun a _ => match a with | .v v => K v | _ => False
def callsX (P : Program) (Γ : List (FuncId × FSpec)) (A : FuncId → List (Nat × LoopBy)) (f : FuncId) (args : List Value) (K : Value → Prop) : Prop := runX P Γ A 12 f (args.map .v) [] (ansX K)
def noAnn : FuncId → List (Nat × LoopBy) := fun _ => []
theorem fn_vc {Φ : World → Prop} (hst : ∀ w w', Φ w → Below w.heap.size w w' → Φ w') {Γ : List (FuncId × FSpec)} (hΓ : Sound P Φ Γ) {A : FuncId → List (Nat × LoopBy)} {f : FuncId} {args : List Value} {u : Value}
    (h : callsX P Γ A f args (fun v => v = u)) : Ans P Φ f args u := fn_eq hst hΓ A 12 h
theorem fn_by {Φ : World → Prop} (hst : ∀ w w', Φ w → Below w.heap.size w w' → Φ w') {Γ : List (FuncId × FSpec)} (hΓ : Sound P Φ Γ) {A : FuncId → List (Nat × LoopBy)} {f : FuncId} {args : List Value} {u : Value} {V : Prop}
    (hv : callsX P Γ A f args (fun v => v = u) = V) (h : V) : Ans P Φ f args u := fn_vc hst hΓ (A := A) (by rw [hv]; exact h)
theorem Sound.nil {Φ : World → Prop} : Sound P Φ [] := fun f s h => by cases h
theorem Sound.cons {Φ : World → Prop} {Γ : List (FuncId × FSpec)} {g : FuncId} {s : FSpec} (hc : (match P.funcs[g]? with | some fn => !(fn.name == "runtime.NumGoroutine") && fn.body.isSome | none => false) = true)
    (hs : ∀ args p v, s args = some (p, v) → p → Ans P Φ g args v) (h : Sound P Φ Γ) : Sound P Φ ((g, s) :: Γ) := by
  intro f t hf
  simp only [spec] at hf
  cases e : Nat.beq g f with
  | false => rw [e] at hf; exact h f t hf
  | true =>
    rw [e] at hf
    cases hf
    have := Nat.eq_of_beq_eq_true e
    subst this
    refine ⟨?_, hs⟩
    cases hg : P.funcs[g]? with
    | none => simp [hg] at hc
    | some fn =>
      simp only [hg, Bool.and_eq_true, Bool.not_eq_true'] at hc
      exact ⟨fn, rfl, hc.1, hc.2⟩
theorem wrap_in {n : Int} (h : -9223372036854775808 ≤ n ∧ n ≤ 9223372036854775807) : IntKind.i64.wrap n = n := IntWalk.i64_in n h
end
end Go.Abs
