/- A small machine on abstract values: what a function over numbers, strings, structs and closures of its own computes, as a proposition that the kernel reckons; and that it is sound. No program is in sight here. -/
import Derived.Below
import Derived.RangeFuncOwn
import Derived.Lib.Hide
import Derived.KernelRfl
import Derived.Deep.Quiet
import Derived.Laws.Sem
import Derived.Laws.Cells
import Derived.ChangeKeysEq
import Derived.IntWalk
import Derived.Laws.StructEq
import Derived.Great.BuildSlice
import Derived.Laws.AppendOwn
import Derived.Laws.Slices
import Derived.Laws.OwnMore
import Derived.Laws.MakeOwn
import Derived.Laws.IdiomStrings
import Derived.Lib.AppendStr
set_option linter.unusedSimpArgs false
set_option linter.unusedVariables false
namespace Go.Abs
open Go Go.RowKit
section
def pureRun {α : Type} (P : Program) : Sem α → Option α
  | .pure a => some a
  | .program k => pureRun P (k P)
  | .mark _ k => pureRun P k
  | _ => none
theorem pureRun_run {α : Type} {P : Program} {s : Sem α} {a : α} (h : pureRun P s = some a) (w : World) : s.run P w = .ok a w := by
  induction s with
  | pure b => simp [pureRun] at h; subst h; rfl
  | program k ih => exact ih P (by simpa [pureRun] using h)
  | mark m k ih => exact ih (by simpa [pureRun] using h)
  | _ => simp [pureRun] at h
inductive AV where
  | v (x : Value)
  | p (k off : Nat)
  | c (f : FuncId) (caps : List (Nat × Nat))
  | s (k off n c : Nat)
  | e (k j z f : Nat)
  | rs (k n : Nat)
  | os (k n : Nat)
  | ps (k o z n : Nat)
  | sl (k o z n : Nat)
  | fe (k j z f : Nat)
  | any
  | ag (l : List AV)
  | tu (l : List AV)
def Ext (ρ ρ' : Nat → Option Nat) : Prop := ∀ k n, ρ k = some n → ρ' k = some n
theorem Ext.refl (ρ : Nat → Option Nat) : Ext ρ ρ := fun _ _ h => h
theorem Ext.trans {a b c : Nat → Option Nat} (h : Ext a b) (k : Ext b c) : Ext a c := fun i n e => k i n (h i n e)
def ptrs (ρ : Nat → Option Nat) : List (Nat × Nat) → Option (List Value)
  | [] => some []
  | (k, o) :: l =>
    match ρ k, ptrs ρ l with
    | some b, some r => some (.pointer (some ⟨b, o, none⟩) :: r)
    | _, _ => none
def AV.R0 (ρ : Nat → Option Nat) : AV → Value → Prop
  | .v a, b => b = a
  | .p k o, b => ∃ n, ρ k = some n ∧ b = .pointer (some ⟨n, o, none⟩)
  | .c f caps, b => ∃ l, ptrs ρ caps = some l ∧ b = .func (.func f) #[] l.toArray
  | .s k o n d, b => ∃ m, ρ k = some m ∧ b = .slice (some ⟨m, o, none⟩) n d
  | .e k j z f, b => ∃ m, ρ k = some m ∧ b = .pointer (some ⟨m, j * z + f, none⟩)
  | .rs k n, b => ∃ m c, ρ k = some m ∧ (ρ (k + 1) = some c ∧ n ≤ c) ∧ b = .slice (some ⟨m, 0, none⟩) n c
  | .os k n, b => (n = 0 → b = .slice none 0 0) ∧ (n ≠ 0 → ∃ m c, ρ k = some m ∧ (ρ (k + 1) = some c ∧ n ≤ c) ∧ b = .slice (some ⟨m, 0, none⟩) n c)
  | .ps k o z n, b => (n = 0 → ∃ a c, b = .slice a 0 c) ∧ (n ≠ 0 → ∃ m c, ρ k = some m ∧ n ≤ c ∧ b = .slice (some ⟨m, o * z, none⟩) n c)
  | .sl k o z n, b => (n = 0 → ∃ a c, b = .slice a 0 c) ∧ (n ≠ 0 → ∃ m c off, ρ k = some m ∧ (ρ (k + 1) = some off ∧ n ≤ c) ∧ b = .slice (some ⟨m, off + o * z, none⟩) n c)
  | .fe k j z f, b => ∃ m off, ρ k = some m ∧ ρ (k + 1) = some off ∧ b = .pointer (some ⟨m, off + j * z + f, none⟩)
  | .any, _ => True
  | .ag _, _ => False
  | .tu _, _ => False
def RL0 (ρ : Nat → Option Nat) : List AV → List Value → Prop
  | [], [] => True
  | a :: as, v :: vs => a.R0 ρ v ∧ RL0 ρ as vs
  | _, _ => False
def AV.R1 (ρ : Nat → Option Nat) : AV → Value → Prop
  | .ag l, b => ∃ vs, b = .agg vs.toArray ∧ RL0 ρ l vs
  | a, b => a.R0 ρ b
def RL1 (ρ : Nat → Option Nat) : List AV → List Value → Prop
  | [], [] => True
  | a :: as, v :: vs => a.R1 ρ v ∧ RL1 ρ as vs
  | _, _ => False
def AV.R (ρ : Nat → Option Nat) : AV → Value → Prop
  | .tu l, b => ∃ vs, b = .tuple vs.toArray ∧ RL1 ρ l vs
  | a, b => a.R1 ρ b
theorem ptrs_mono {ρ ρ' : Nat → Option Nat} (h : Ext ρ ρ') : ∀ {l : List (Nat × Nat)} {r}, ptrs ρ l = some r → ptrs ρ' l = some r
  | [], _, e => e
  | (k, o) :: l, r, e => by
    simp only [ptrs] at e ⊢
    cases h1 : ρ k with
    | none => simp [h1] at e
    | some b =>
      cases h2 : ptrs ρ l with
      | none => simp [h1, h2] at e
      | some r' =>
        rw [ptrs_mono h h2, h k b h1]
        simp [h1, h2] at e
        simp [e]
theorem get_mono {ρ ρ' : Nat → Option Nat} (h : Ext ρ ρ') {k b : Nat} (h1 : ρ k = some b) : ρ' k = some b := h k b h1
theorem AV.R0.mono {ρ ρ' : Nat → Option Nat} (h : Ext ρ ρ') {a : AV} {v : Value} (hr : a.R0 ρ v) : a.R0 ρ' v := by
  cases a with
  | v x => exact hr
  | p k o => obtain ⟨n, h1, h2⟩ := hr; exact ⟨n, get_mono h h1, h2⟩
  | c f caps => obtain ⟨l, h1, h2⟩ := hr; exact ⟨l, ptrs_mono h h1, h2⟩
  | s k o n d => obtain ⟨m, h1, h2⟩ := hr; exact ⟨m, get_mono h h1, h2⟩
  | e k j z f => obtain ⟨m, h1, h2⟩ := hr; exact ⟨m, get_mono h h1, h2⟩
  | rs k n => obtain ⟨m, c, h1, h2, h3⟩ := hr; exact ⟨m, c, get_mono h h1, ⟨get_mono h h2.1, h2.2⟩, h3⟩
  | os k n => exact ⟨hr.1, fun h0 => by obtain ⟨m, c, h1, h2, h3⟩ := hr.2 h0; exact ⟨m, c, get_mono h h1, ⟨get_mono h h2.1, h2.2⟩, h3⟩⟩
  | ps k o z n => exact ⟨hr.1, fun h0 => by obtain ⟨m, c, h1, h3⟩ := hr.2 h0; exact ⟨m, c, get_mono h h1, h3⟩⟩
  | sl k o z n => exact ⟨hr.1, fun h0 => by obtain ⟨m, c, off, h1, h2, h3⟩ := hr.2 h0; exact ⟨m, c, off, get_mono h h1, ⟨get_mono h h2.1, h2.2⟩, h3⟩⟩
  | fe k j z f => obtain ⟨m, off, h1, h2, h3⟩ := hr; exact ⟨m, off, get_mono h h1, get_mono h h2, h3⟩
  | any => trivial
  | ag l => exact hr.elim
  | tu l => exact hr.elim
theorem RL0.mono {ρ ρ' : Nat → Option Nat} (h : Ext ρ ρ') : ∀ {as : List AV} {vs : List Value}, RL0 ρ as vs → RL0 ρ' as vs
  | [], [], _ => trivial
  | _ :: _, _ :: _, hr => ⟨hr.1.mono h, hr.2.mono h⟩
  | [], _ :: _, hr => hr.elim
  | _ :: _, [], hr => hr.elim
theorem AV.R1_eq {ρ : Nat → Option Nat} {a : AV} {b : Value} (h : ∀ l, a ≠ .ag l) : a.R1 ρ b = a.R0 ρ b := by
  cases a <;> first | rfl | exact absurd rfl (h _)
theorem AV.R_eq {ρ : Nat → Option Nat} {a : AV} {b : Value} (h : ∀ l, a ≠ .tu l) : a.R ρ b = a.R1 ρ b := by
  cases a <;> first | rfl | exact absurd rfl (h _)
theorem AV.R1.mono {ρ ρ' : Nat → Option Nat} (h : Ext ρ ρ') {a : AV} {v : Value} (hr : a.R1 ρ v) : a.R1 ρ' v := by
  cases a with
  | ag l => obtain ⟨vs, e, q⟩ := hr; exact ⟨vs, e, q.mono h⟩
  | _ => rw [AV.R1_eq (by intro l; simp)] at hr ⊢; exact AV.R0.mono h hr
theorem RL1.mono {ρ ρ' : Nat → Option Nat} (h : Ext ρ ρ') : ∀ {as : List AV} {vs : List Value}, RL1 ρ as vs → RL1 ρ' as vs
  | [], [], _ => trivial
  | _ :: _, _ :: _, hr => ⟨hr.1.mono h, hr.2.mono h⟩
  | [], _ :: _, hr => hr.elim
  | _ :: _, [], hr => hr.elim
theorem AV.R.mono {ρ ρ' : Nat → Option Nat} (h : Ext ρ ρ') {a : AV} {v : Value} (hr : a.R ρ v) : a.R ρ' v := by
  cases a with
  | tu l => obtain ⟨vs, e, q⟩ := hr; exact ⟨vs, e, q.mono h⟩
  | _ => rw [AV.R_eq (by intro l; simp)] at hr ⊢; exact AV.R1.mono h hr
def memN (n : Nat) : List Nat → Bool
  | [] => false
  | m :: l => Nat.beq m n || memN n l
theorem memN_iff {n : Nat} : ∀ {l : List Nat}, memN n l = false → n ∉ l
  | [], _ => by simp
  | m :: l, h => by
    simp only [memN, Bool.or_eq_false_iff] at h
    have h2 := memN_iff h.2
    intro q
    rcases List.mem_cons.1 q with q | q
    · subst q; rw [Nat.beq_refl] at h; cases h.1
    · exact h2 q
def lget : List AV → Nat → AV
  | [], _ => .v undef
  | x :: _, 0 => x
  | _ :: l, n + 1 => lget l n
def lset : List AV → Nat → AV → List AV
  | [], _, _ => []
  | _ :: l, 0, y => y :: l
  | x :: l, n + 1, y => x :: lset l n y
def RT (ρ : Nat → Option Nat) (tm : List AV) (t : Array Value) : Prop := tm.length = t.size ∧ ∀ i, (lget tm i).R ρ (t.getD i undef)
theorem lset_length : ∀ (l : List AV) (n : Nat) (y : AV), (lset l n y).length = l.length
  | [], _, _ => rfl
  | _ :: l, 0, _ => rfl
  | _ :: l, n + 1, y => by simp [lset, lset_length l n y]
theorem lget_lset : ∀ (l : List AV) (n : Nat) (y : AV) (i : Nat), lget (lset l n y) i = if i = n ∧ n < l.length then y else lget l i
  | [], n, y, i => by simp [lset, lget]
  | x :: l, 0, y, i => by cases i <;> simp [lset, lget]
  | x :: l, n + 1, y, i => by
    cases i with
    | zero => simp [lset, lget]
    | succ i =>
      simp only [lset, lget, lget_lset l n y i, List.length_cons, Nat.add_right_cancel_iff]
      by_cases h : i = n ∧ n < l.length
      · rw [if_pos h, if_pos ⟨h.1, by omega⟩]
      · rw [if_neg h, if_neg (fun q => h ⟨q.1, by omega⟩)]
theorem RT.set {ρ : Nat → Option Nat} {tm : List AV} {t : Array Value} (h : RT ρ tm t) (d : Nat) {a : AV} {v : Value} (hr : a.R ρ v) :
    RT ρ (lset tm d a) (t.setIfInBounds d v) := by
  refine ⟨by simp [lset_length, h.1], fun i => ?_⟩
  rw [lget_lset]
  have hi := h.2 i
  by_cases q : i = d ∧ d < tm.length
  · rw [if_pos q]
    have : d < t.size := by have := h.1; omega
    obtain ⟨rfl, _⟩ := q
    simpa [this] using hr
  · rw [if_neg q]
    by_cases e : i = d
    · have hb : ¬ d < t.size := by intro hh; exact q ⟨e, by rw [h.1]; exact hh⟩
      rw [show t.setIfInBounds d v = t from by simp [Array.setIfInBounds, hb]]
      exact hi
    · have : (t.setIfInBounds d v).getD i undef = t.getD i undef := by
        simp only [Array.getD_eq_getD_getElem?]
        rw [Array.getElem?_setIfInBounds_ne (Ne.symm e)]
      rw [this]
      exact hi
theorem RT.mono {ρ ρ' : Nat → Option Nat} (h : Ext ρ ρ') {tm : List AV} {t : Array Value} (hr : RT ρ tm t) : RT ρ' tm t := ⟨hr.1, fun i => (hr.2 i).mono h⟩
structure Enc (α : Type) where
  z : Nat
  enc : α → List Value
  dec : List Value → Option α
  d : α
  len : ∀ x, (enc x).length = z
  one : ∀ x v, v ∈ enc x → v.oneCell' = true
  back : ∀ l x, dec l = some x → enc x = l
def encI (k : IntKind) : Enc Int where
  z := 1
  enc x := [.int k x]
  dec := fun | [.int k' x] => bif decide (k' = k) then some x else none | _ => none
  d := 0
  len _ := rfl
  one x v h := by
    have h : v = .int k x := by simpa using h
    subst h
    rfl
  back l x h := by
    split at h
    · rename_i k' y
      cases e : decide (k' = k) with
      | false => simp [e] at h
      | true => simp [e] at h; simp at e; subst h; subst e; rfl
    · cases h
def encS : Enc ByteArray where
  z := 1
  enc x := [.string x]
  dec := fun | [.string x] => some x | _ => none
  d := ⟨#[]⟩
  len _ := rfl
  one x v h := by
    have h : v = .string x := by simpa using h
    subst h
    rfl
  back l x h := by
    split at h
    · cases h; rfl
    · cases h
def encB : Enc Bool where
  z := 1
  enc x := [.bool x]
  dec := fun | [.bool x] => some x | _ => none
  d := false
  len _ := rfl
  one x v h := by
    have h : v = .bool x := by simpa using h
    subst h
    rfl
  back l x h := by
    split at h
    · cases h; rfl
    · cases h
def encP {α β : Type} (E : Enc α) (F : Enc β) : Enc (α × β) where
  z := E.z + F.z
  enc x := E.enc x.1 ++ F.enc x.2
  dec l := match E.dec (l.take E.z), F.dec (l.drop E.z) with | some x, some y => some (x, y) | _, _ => none
  d := (E.d, F.d)
  len x := by rw [List.length_append, E.len, F.len]
  one x v h := by
    rcases List.mem_append.1 h with h | h
    · exact E.one _ _ h
    · exact F.one _ _ h
  back l x h := by
    split at h
    · rename_i a b ha hb
      cases h
      show E.enc a ++ F.enc b = l
      rw [E.back _ _ ha, F.back _ _ hb, List.take_append_drop]
    · cases h
inductive ET where
  | int (k : IntKind)
  | str
  | bool
  | pair (a b : ET)
 deriving DecidableEq
@[reducible] def ET.ty : ET → Type
  | .int _ => Int
  | .str => ByteArray
  | .bool => Bool
  | .pair a b => a.ty × b.ty
def ET.enc : (t : ET) → Enc t.ty
  | .int k => encI k
  | .str => encS
  | .bool => encB
  | .pair a b => encP a.enc b.enc
def castRow {a b : ET} (h : a = b) (xs : List a.ty) : List b.ty := h ▸ xs
structure Row where
  t : ET
  xs : List t.ty
  held : Bool
@[reducible] def Row.E (r : Row) : Enc r.t.ty := r.t.enc
def Row.vals (r : Row) : List Value := r.xs.flatMap r.E.enc
structure Blk where
  T : TypeId
  cs : List AV
  own : Option Bool
  row : Option Row
def Blk.live (b : Blk) : Prop := b.own ≠ none ∧ ∀ r, b.row = some r → r.held = true ∨ r.xs ≠ []
theorem Blk.live_of {b : Blk} {o : Bool} (h : b.own = some o) (hw : b.row = none) : b.live := ⟨by rw [h]; simp, fun r e => by rw [hw] at e; cases e⟩
def Blk.fit (ρ : Nat → Option Nat) (k : Nat) (h : Blk) (cs : Array Value) : Prop :=
  match h.row with
  | none => cs.size = h.cs.length ∧ ∀ o, o < h.cs.length → (lget h.cs o).R ρ (cs.getD o undef)
  | some r =>
    match h.own with
    | some false => ∃ off, ρ (k + 1) = some off ∧ (cs.toList.drop off).take (r.xs.length * r.E.z) = r.vals
    | _ => ∃ cap, ρ (k + 1) = some cap ∧ cs.size = cap * r.E.z ∧ cap ≤ maxLen ∧ r.xs.length ≤ cap ∧ cs.toList.take (r.xs.length * r.E.z) = r.vals
theorem Blk.fit.mono {ρ ρ' : Nat → Option Nat} (h : Ext ρ ρ') {k : Nat} {b : Blk} {cs : Array Value} (hf : b.fit ρ k cs) : b.fit ρ' k cs := by
  unfold Blk.fit at *
  cases e : b.row with
  | none => rw [e] at hf; exact ⟨hf.1, fun o ho => (hf.2 o ho).mono h⟩
  | some r =>
    rw [e] at hf
    cases eo : b.own with
    | none => simp only [eo] at hf ⊢; obtain ⟨c, h1, h2⟩ := hf; exact ⟨c, h _ _ h1, h2⟩
    | some o => cases o <;> simp only [eo] at hf ⊢ <;> obtain ⟨c, h1, h2⟩ := hf <;> exact ⟨c, h _ _ h1, h2⟩
def sideOk (B b : Nat) (own : Option Bool) : Prop := own = some true → B ≤ b
def Lies (w : World) (b : Nat) (h : Blk) (cs : Array Value) : Prop := ∃ T fz, w.heap[b]? = some (.cells cs T fz) ∧ (h.own = some true → T = h.T ∧ fz = (0, 0))
theorem Lies.own {w : World} {b : Nat} {h : Blk} {cs : Array Value} (q : Lies w b h cs) (ho : h.own = some true) : w.heap[b]? = some (.cells cs h.T (0, 0)) := by
  obtain ⟨T, fz, h1, h2⟩ := q
  rw [(h2 ho).1, (h2 ho).2] at h1
  exact h1
theorem Lies.of {w : World} {b : Nat} {h : Blk} {cs : Array Value} (q : w.heap[b]? = some (.cells cs h.T (0, 0))) : Lies w b h cs := ⟨_, _, q, fun _ => ⟨rfl, rfl⟩⟩
structure Rel (B : Nat) (w0 : World) (ρ : Nat → Option Nat) (H : Nat → Option Blk) (w : World) : Prop where
  below : Below B w0 w
  base : B ≤ w.heap.size
  dom : ∀ k, H k = none → ρ k = none
  inj : ∀ (i j b : Nat) (x y : Blk), ρ i = some b → ρ j = some b → H i = some x → H j = some y → x.live → y.live → y.own = some true → i = j
  blk : ∀ (k b : Nat) (h : Blk), ρ k = some b → H k = some h → h.live → sideOk B b h.own ∧ ∃ cs, Lies w b h cs ∧ h.fit ρ k cs
  lies : ∀ (k : Nat) (h : Blk), H k = some h → ∃ n, ρ k = some n
  keeps : KeepsOthers w0 w
theorem keeps_below {w w' : World} (h : Below w.heap.size w w') : KeepsOthers w w' :=
  ⟨h.size, fun k o hk ho => (h.block k (Array.getElem?_eq_some_iff.1 hk).1).trans hk⟩
def hpF (hp : List Blk) : Nat → Option Blk := fun k => hp[k]?
def upd (H : Nat → Option Blk) (k : Nat) (b : Blk) : Nat → Option Blk := fun i => if i = k then some b else H i
structure AS where
  tm : List AV
  hp : List Blk
def ev (tm : List AV) : Operand → AV
  | .tmp t => lget tm t
  | .const v => .v v
  | .global g => .v (.pointer (some ⟨g, 0, none⟩))
  | .func f => .v (.func (.func f) #[] #[])
theorem ev_R {ρ : Nat → Option Nat} {tm : List AV} {a : Act} (h : RT ρ tm a.tmps) (x : Operand) : (ev tm x).R ρ (a.eval x) := by
  cases x with
  | tmp t => exact h.2 t
  | _ => rfl
def evV (tm : List AV) (x : Operand) : Value := match ev tm x with | .v a => a | _ => undef
def isV : AV → Bool | .v _ => true | _ => false
theorem evV_eq {ρ : Nat → Option Nat} {tm : List AV} {a : Act} (h : RT ρ tm a.tmps) {x : Operand} (hx : isV (ev tm x) = true) : a.eval x = evV tm x := by
  have := ev_R h x
  unfold evV
  cases e : ev tm x with
  | v b => rw [e] at this; exact this
  | _ => simp [e, isV] at hx
def vals : List AV → Option (List Value)
  | [] => some []
  | .v x :: l => match vals l with | some r => some (x :: r) | none => none
  | _ :: _ => none
def bcase (b : Bool) (p q : Prop) : Prop := match b with | true => p | false => q
theorem bif_iff {b : Bool} {k : Prop} : (bif b then k else False) ↔ b = true ∧ k := by cases b <;> simp
theorem bcase_true {p q : Prop} : bcase true p q = p := rfl
theorem bcase_false {p q : Prop} : bcase false p q = q := rfl
theorem bcase_iff {b : Bool} {p q : Prop} : bcase b p q ↔ (b = true → p) ∧ (b = false → q) := by cases b <;> simp [bcase]
end
section
def bset : List Blk → Nat → Blk → List Blk
  | [], _, _ => []
  | _ :: l, 0, y => y :: l
  | x :: l, n + 1, y => x :: bset l n y
theorem bset_length : ∀ (l : List Blk) (n : Nat) (y : Blk), (bset l n y).length = l.length
  | [], _, _ => rfl
  | _ :: l, 0, _ => rfl
  | _ :: l, n + 1, y => by simp [bset, bset_length l n y]
theorem bset_get : ∀ (l : List Blk) (n : Nat) (y : Blk) (i : Nat), (bset l n y)[i]? = if i = n ∧ n < l.length then some y else l[i]?
  | [], n, y, i => by simp [bset]
  | x :: l, 0, y, i => by cases i <;> simp [bset]
  | x :: l, n + 1, y, i => by
    cases i with
    | zero => simp [bset]
    | succ i => simp [bset, bset_get l n y i]
variable {B : Nat} {w0 w : World} {ρ : Nat → Option Nat} {H : Nat → Option Blk}
theorem Rel.get (h : Rel B w0 ρ H w) {k n : Nat} (hk : ρ k = some n) : ∃ b, H k = some b := by
  cases e : H k with
  | none => rw [h.dom k e] at hk; cases hk
  | some b => exact ⟨b, rfl⟩
theorem Rel.cell (h : Rel B w0 ρ H w) {k n o : Nat} {b : Blk} (hk : ρ k = some n) (hb : H k = some b) (hl : b.live) (hw : b.row = none) (ho : o < b.cs.length) :
    ∃ v, w.cell? ⟨n, o, none⟩ = some v ∧ (lget b.cs o).R ρ v := by
  obtain ⟨_, cs, ⟨T', fz, h1, _⟩, h2⟩ := h.blk k n b hk hb hl
  unfold Blk.fit at h2
  rw [hw] at h2
  have := h2.2 o ho
  have hs : o < cs.size := by omega
  refine ⟨cs[o], ?_, ?_⟩
  · simp [World.cell?, h1, hs]
  · simpa [hs] using this
theorem Rel.frozen (h : Rel B w0 ρ H w) {k n o : Nat} {b : Blk} (hk : ρ k = some n) (hb : H k = some b) (hl : b.live) (ho : b.own = some true) : w.frozen? ⟨n, o, none⟩ = false := by
  obtain ⟨_, cs, h1, _⟩ := h.blk k n b hk hb hl
  simp [World.frozen?, h1.own ho]
theorem Rel.lt (h : Rel B w0 ρ H w) {k n : Nat} {b : Blk} (hk : ρ k = some n) (hb : H k = some b) (hl : b.live) : n < w.heap.size := by
  obtain ⟨_, cs, ⟨T', fz, h1, _⟩, _⟩ := h.blk k n b hk hb hl
  rcases Nat.lt_or_ge n w.heap.size with q | q
  · exact q
  · simp [Array.getElem?_eq_none q] at h1
theorem Rel.later (h : Rel B w0 ρ H w) {w' : World} (hb : Below w.heap.size w w') : Rel B w0 ρ H w' := by
  refine ⟨h.below.trans (hb.mono h.base), Nat.le_trans h.base hb.size, h.dom, h.inj, fun k b x hk hx hl => ?_, h.lies, h.keeps.trans (keeps_below hb)⟩
  obtain ⟨h0, cs, ⟨T', fz, h1, h3⟩, h2⟩ := h.blk k b x hk hx hl
  exact ⟨h0, cs, ⟨T', fz, by rw [hb.block b (h.lt hk hx hl)]; exact h1, h3⟩, h2⟩
theorem Rel.drawn (h : Rel B w0 ρ H w) (n : Nat) : Rel B w0 ρ H { w with drawn := n } :=
  h.later ⟨rfl, rfl, rfl, Nat.le_refl _, fun _ _ => rfl⟩
def rnew (ρ : Nat → Option Nat) (k n : Nat) : Nat → Option Nat := fun i => if i = k then some n else ρ i
theorem Ext.new {k : Nat} (h : ρ k = none) (n : Nat) : Ext ρ (rnew ρ k n) := fun i m e => by
  unfold rnew
  by_cases q : i = k
  · subst q; rw [h] at e; cases e
  · rw [if_neg q]; exact e
theorem Rel.newG (h : Rel B w0 ρ H w) {k : Nat} (hk : H k = none) {b : Blk} {fz : Nat × Nat} (ho : b.own = some true → fz = (0, 0)) {cs : Array Value} (hf : b.fit ρ k cs) :
    Rel B w0 (rnew ρ k w.heap.size) (upd H k b) (w.alloc (.cells cs b.T fz)) := by
  have hp' : Ext ρ (rnew ρ k w.heap.size) := Ext.new (h.dom k hk) _
  have hsz : (w.alloc (.cells cs b.T fz)).heap.size = w.heap.size + 1 := by show (w.heap.push _).size = _; simp
  refine ⟨h.below.alloc h.base _, by have := h.base; omega, fun i hi => ?_, fun i j b x y hi hj hx hy lx ly oy => ?_, fun i n x hi hx hl => ?_, fun i x hx => ?_, h.keeps.trans (KeepsOthers.alloc _ _)⟩
  · unfold upd at hi
    unfold rnew
    by_cases q : i = k
    · rw [if_pos q] at hi; cases hi
    · rw [if_neg q] at hi ⊢; exact h.dom i hi
  · unfold rnew at hi hj
    unfold upd at hx hy
    by_cases q : i = k <;> by_cases r : j = k
    · rw [q, r]
    · rw [if_pos q] at hi; rw [if_neg r] at hj hy; cases hi; exact absurd (h.lt hj hy ly) (by omega)
    · rw [if_neg q] at hi hx; rw [if_pos r] at hj; cases hj; exact absurd (h.lt hi hx lx) (by omega)
    · rw [if_neg q] at hi hx; rw [if_neg r] at hj hy; exact h.inj i j b x y hi hj hx hy lx ly oy
  · unfold rnew at hi
    unfold upd at hx
    by_cases q : i = k
    · rw [if_pos q] at hi hx
      cases hi; cases hx
      subst q
      exact ⟨fun _ => h.base, cs, ⟨_, fz, by show (w.heap.push _)[w.heap.size]? = _; simp, fun q => ⟨rfl, ho q⟩⟩, hf.mono hp'⟩
    · rw [if_neg q] at hi hx
      obtain ⟨h0, cs', ⟨T', fz, h1, h3⟩, h2⟩ := h.blk i n x hi hx hl
      refine ⟨h0, cs', ⟨T', fz, ?_, h3⟩, h2.mono hp'⟩
      rw [Below.heap_alloc _ _ _ (h.lt hi hx hl)]
      exact h1
  · unfold upd at hx
    unfold rnew
    by_cases q : i = k
    · exact ⟨_, if_pos q⟩
    · rw [if_neg q] at hx ⊢; exact h.lies i x hx
theorem Rel.newB (h : Rel B w0 ρ H w) {k : Nat} (hk : H k = none) {b : Blk} (ho : b.own = some true) {cs : Array Value} (hf : b.fit ρ k cs) :
    Rel B w0 (rnew ρ k w.heap.size) (upd H k b) (w.alloc (.cells cs b.T (0, 0))) := h.newG hk (fun _ => rfl) hf
def deadB : Blk := ⟨0, [], none, none⟩
theorem Rel.note (h : Rel B w0 ρ H w) {k : Nat} (hk : H k = none) (n : Nat) : Rel B w0 (rnew ρ k n) (upd H k deadB) w := by
  have hp' : Ext ρ (rnew ρ k n) := Ext.new (h.dom k hk) _
  refine ⟨h.below, h.base, fun i hi => ?_, fun i j b x y hi hj hx hy lx ly oy => ?_, fun i m x hi hx hl => ?_, fun i x hx => ?_, h.keeps⟩
  · unfold upd at hi
    unfold rnew
    by_cases q : i = k
    · rw [if_pos q] at hi; cases hi
    · rw [if_neg q] at hi ⊢; exact h.dom i hi
  · unfold rnew at hi hj
    unfold upd at hx hy
    by_cases q : i = k
    · rw [if_pos q] at hx; cases hx; exact absurd rfl lx.1
    · by_cases r : j = k
      · rw [if_pos r] at hy; cases hy; exact absurd rfl ly.1
      · rw [if_neg q] at hi hx; rw [if_neg r] at hj hy; exact h.inj i j b x y hi hj hx hy lx ly oy
  · unfold rnew at hi
    unfold upd at hx
    by_cases q : i = k
    · rw [if_pos q] at hx; cases hx; exact absurd rfl hl.1
    · rw [if_neg q] at hi hx
      obtain ⟨h0, cs', h1, h2⟩ := h.blk i m x hi hx hl
      exact ⟨h0, cs', h1, h2.mono hp'⟩
  · unfold upd at hx
    unfold rnew
    by_cases q : i = k
    · exact ⟨_, if_pos q⟩
    · rw [if_neg q] at hx ⊢; exact h.lies i x hx
theorem Rel.kill (h : Rel B w0 ρ H w) {k : Nat} {b : Blk} (hb : H k = some b) : Rel B w0 ρ (upd H k deadB) w := by
  refine ⟨h.below, h.base, fun i hi => ?_, fun i j b x y hi hj hx hy lx ly oy => ?_, fun i m x hi hx hl => ?_, fun i x hx => ?_, h.keeps⟩
  · unfold upd at hi
    by_cases q : i = k
    · rw [if_pos q] at hi; cases hi
    · rw [if_neg q] at hi; exact h.dom i hi
  · unfold upd at hx hy
    by_cases q : i = k
    · rw [if_pos q] at hx; cases hx; exact absurd rfl lx.1
    · by_cases r : j = k
      · rw [if_pos r] at hy; cases hy; exact absurd rfl ly.1
      · rw [if_neg q] at hx; rw [if_neg r] at hy; exact h.inj i j b x y hi hj hx hy lx ly oy
  · unfold upd at hx
    by_cases q : i = k
    · rw [if_pos q] at hx; cases hx; exact absurd rfl hl.1
    · rw [if_neg q] at hx; exact h.blk i m x hi hx hl
  · unfold upd at hx
    by_cases q : i = k
    · subst q; exact h.lies i b hb
    · rw [if_neg q] at hx; exact h.lies i x hx
theorem Rel.new (h : Rel B w0 ρ H w) {k : Nat} (hk : H k = none) {T : TypeId} {cs : Array Value} {as : List AV} (hs : cs.size = as.length)
    (hr : ∀ o, o < as.length → (lget as o).R ρ (cs.getD o undef)) :
    Rel B w0 (rnew ρ k w.heap.size) (upd H k ⟨T, as, some true, none⟩) (w.alloc (.cells cs T (0, 0))) :=
  h.newB hk (b := ⟨T, as, some true, none⟩) rfl ⟨hs, hr⟩
theorem Rel.put (h : Rel B w0 ρ H w) {k n o : Nat} {b : Blk} (hk : ρ k = some n) (hb : H k = some b) (hw : b.row = none) (hown : b.own = some true) (ho : o < b.cs.length) {a : AV} {v : Value} (hr : a.R ρ v) :
    Rel B w0 ρ (upd H k { b with cs := lset b.cs o a }) (w.setCell ⟨n, o, none⟩ v) := by
  have hl : b.live := Blk.live_of hown hw
  obtain ⟨h0, cs, hL, hfit⟩ := h.blk k n b hk hb hl
  have h1 := hL.own hown
  have h0' : B ≤ n := h0 hown
  have hfit' := hfit
  unfold Blk.fit at hfit'
  rw [hw] at hfit'
  obtain ⟨h2, h3⟩ := hfit'
  refine ⟨h.below.setCell (p := ⟨n, o, none⟩) h0' v, by simpa [World.setCell] using h.base, fun i hi => ?_, fun i j n' x y hi hj hx hy lx ly oy => ?_, fun k' n' x hk' hx hlx => ?_, fun i x hx => ?_, h.keeps.trans (KeepsOthers.setCell _ _ _)⟩
  · unfold upd at hi
    by_cases q : i = k
    · rw [if_pos q] at hi; cases hi
    · rw [if_neg q] at hi; exact h.dom i hi
  · have old : ∀ (i : Nat) (x : Blk), upd H k { b with cs := lset b.cs o a } i = some x → x.live → ∃ x', H i = some x' ∧ x'.live ∧ (x.own = some true → x'.own = some true) := fun i x hx hlx => by
      unfold upd at hx
      by_cases q : i = k
      · subst q; exact ⟨b, hb, hl, fun _ => hown⟩
      · rw [if_neg q] at hx; exact ⟨x, hx, hlx, id⟩
    obtain ⟨x', hx', lx', _⟩ := old i x hx lx
    obtain ⟨y', hy', ly', oy'⟩ := old j y hy ly
    exact h.inj i j n' x' y' hi hj hx' hy' lx' ly' (oy' oy)
  · unfold upd at hx
    by_cases q : k' = k
    · subst q
      rw [if_pos rfl] at hx
      cases hx
      rw [hk] at hk'
      cases hk'
      refine ⟨h0, cs.setIfInBounds o v, .of ?_, ?_⟩
      · simp only [World.setCell, Array.getElem?_modify, h1]
        simp
      · unfold Blk.fit
        simp only [hw]
        refine ⟨by simp [lset_length, h2], fun i hi => ?_⟩
        simp only [lset_length] at hi
        rw [lget_lset]
        have := h3 i hi
        by_cases e : i = o
        · subst e
          rw [if_pos ⟨rfl, hi⟩]
          have : i < cs.size := by omega
          simpa [this] using hr
        · rw [if_neg (fun q => e q.1)]
          have e2 : (cs.setIfInBounds o v).getD i undef = cs.getD i undef := by
            simp only [Array.getD_eq_getD_getElem?]
            rw [Array.getElem?_setIfInBounds_ne (Ne.symm e)]
          rw [e2]
          exact this
    · rw [if_neg q] at hx
      obtain ⟨h0', cs', ⟨T', fz', h1', h3'⟩, h2'⟩ := h.blk k' n' x hk' hx hlx
      refine ⟨h0', cs', ⟨T', fz', ?_, h3'⟩, h2'⟩
      have : n' ≠ n := fun e => q (h.inj k' k n x b (e ▸ hk') hk hx hb hlx hl hown)
      rw [Below.heap_setCell _ _ _ _ this]
      exact h1'
  · unfold upd at hx
    by_cases q : i = k
    · subst q; exact ⟨n, hk⟩
    · rw [if_neg q] at hx; exact h.lies i x hx
theorem Rel.add (h : Rel B w0 ρ H w) {k : Nat} (hk : H k = none) {b : Blk} (ho : b.own = some true) {m : Nat} {cs : Array Value}
    (hB : B ≤ m) (hfree : ∀ i x, ρ i = some m → H i = some x → ¬ x.live) (hcs : w.heap[m]? = some (.cells cs b.T (0, 0))) (hf : b.fit ρ k cs) :
    Rel B w0 (rnew ρ k m) (upd H k b) w := by
  have hp' : Ext ρ (rnew ρ k m) := Ext.new (h.dom k hk) _
  refine ⟨h.below, h.base, fun i hi => ?_, fun i j b x y hi hj hx hy lx ly oy => ?_, fun i n x hi hx hl => ?_, fun i x hx => ?_, h.keeps⟩
  · unfold upd at hi
    unfold rnew
    by_cases q : i = k
    · rw [if_pos q] at hi; cases hi
    · rw [if_neg q] at hi ⊢; exact h.dom i hi
  · unfold rnew at hi hj
    unfold upd at hx hy
    by_cases q : i = k <;> by_cases r : j = k
    · rw [q, r]
    · rw [if_pos q] at hi; rw [if_neg r] at hj hy; cases hi; exact absurd ly (hfree j y hj hy)
    · rw [if_neg q] at hi hx; rw [if_pos r] at hj; cases hj; exact absurd lx (hfree i x hi hx)
    · rw [if_neg q] at hi hx; rw [if_neg r] at hj hy; exact h.inj i j b x y hi hj hx hy lx ly oy
  · unfold rnew at hi
    unfold upd at hx
    by_cases q : i = k
    · rw [if_pos q] at hi hx
      cases hi; cases hx
      subst q
      exact ⟨fun _ => hB, cs, .of hcs, hf.mono hp'⟩
    · rw [if_neg q] at hi hx
      obtain ⟨h0, cs', h1, h2⟩ := h.blk i n x hi hx hl
      exact ⟨h0, cs', h1, h2.mono hp'⟩
  · unfold upd at hx
    unfold rnew
    by_cases q : i = k
    · exact ⟨_, if_pos q⟩
    · rw [if_neg q] at hx ⊢; exact h.lies i x hx
theorem Rel.grown (h : Rel B w0 ρ H w) {w' : World} {m : Option Nat} (hg : w.grownBy w' m) (hB : ∀ k, m = some k → B ≤ k) (hfree : ∀ i n x, m = some n → ρ i = some n → H i = some x → ¬ x.live) (hcells : ∀ (j : Nat) (o : Obj), m = some j → w.heap[j]? = some o → o.isCells = true) : Rel B w0 ρ H w' := by
  refine ⟨h.below.grown hg h.base hB, Nat.le_trans h.base hg.size, h.dom, h.inj, fun i n x hi hx hl => ?_, h.lies, h.keeps.trans (KeepsOthers.of_grownBy hg hcells)⟩
  obtain ⟨h0, cs, ⟨T', fz, h1, h3⟩, h2⟩ := h.blk i n x hi hx hl
  refine ⟨h0, cs, ⟨T', fz, ?_, h3⟩, h2⟩
  rw [hg.block n (h.lt hi hx hl) (fun e => hfree i n x e.symm hi hx hl)]
  exact h1
theorem Rel.owns (h : Rel B w0 ρ H w) {k : Nat} {b : Blk} {r : Row} (hb : H k = some b) (ho : b.own = some true) (hr : b.row = some r) {v : Value} {a : AV}
    (ha : (a = .rs k r.xs.length ∧ (r.held = true ∨ r.xs ≠ [])) ∨ a = .os k r.xs.length) (hv : a.R ρ v) :
    w.ownsRow B b.T r.E.z v r.xs.length r.vals ∧ (∀ g, v.ownBlock = some g → B ≤ g ∧ ρ k = some g) := by
  have hlen : r.vals.length = r.xs.length * r.E.z := by
    unfold Row.vals
    induction r.xs with
    | nil => simp
    | cons x l ih => rw [List.flatMap_cons, List.length_append, ih, r.E.len, List.length_cons, Nat.add_mul, Nat.add_comm, Nat.one_mul]
  have main : ∀ {m c : Nat}, b.live → ρ k = some m → ρ (k + 1) = some c → v = .slice (some ⟨m, 0, none⟩) r.xs.length c →
      w.ownsRow B b.T r.E.z v r.xs.length r.vals ∧ (∀ g, v.ownBlock = some g → B ≤ g ∧ ρ k = some g) := fun {m c} hl hk hc e => by
    obtain ⟨h0, cs, hL, h2⟩ := h.blk k m b hk hb hl
    have h1 := hL.own ho
    have h0 : B ≤ m := h0 ho
    unfold Blk.fit at h2
    simp only [hr, ho] at h2
    obtain ⟨c', hc', q1, q2, q3, q4⟩ := h2
    rw [hc] at hc'
    cases hc'
    exact ⟨⟨hlen, .inr ⟨m, c, cs, e, h0, h1, q3, q2, q1, q4⟩⟩, fun g hg => by rw [e] at hg; cases hg; exact ⟨h0, hk⟩⟩
  have hown : b.own ≠ none := by rw [ho]; simp
  rcases ha with ⟨rfl, hh⟩ | rfl
  · obtain ⟨m, c, hk, hc, e⟩ := hv
    exact main ⟨hown, fun r' e' => by rw [hr] at e'; cases e'; exact hh⟩ hk hc.1 e
  · by_cases h0 : r.xs.length = 0
    · have := hv.1 h0
      subst this
      exact ⟨⟨hlen, .inl ⟨rfl, h0⟩⟩, fun g hg => by cases hg⟩
    · obtain ⟨m, c, hk, hc, e⟩ := hv.2 h0
      exact main ⟨hown, fun r' e' => by rw [hr] at e'; cases e'; exact .inr (fun e => h0 (by rw [e]; rfl))⟩ hk hc.1 e
theorem Rel.addRow (h : Rel B w0 ρ H w) {k : Nat} (hk : H k = none) (hk1 : H (k + 1) = none) {T : TypeId} {r : Row} {v : Value} (hv : v ≠ .slice none 0 0)
    (hown : w.ownsRow B T r.E.z v r.xs.length r.vals) (hfree : ∀ i g x, v.ownBlock = some g → ρ i = some g → H i = some x → ¬ x.live) :
    ∃ ρ', Ext ρ ρ' ∧ Rel B w0 ρ' (upd (upd H (k + 1) deadB) k ⟨T, [], some true, some r⟩) w ∧ (AV.rs k r.xs.length).R ρ' v := by
  rcases hown.2 with ⟨e, _⟩ | ⟨g, cap, cur, e, hg, hc, q3, q2, q1, q4⟩
  · exact absurd e hv
  · subst e
    have hd1 : ρ (k + 1) = none := h.dom _ hk1
    have e1 := Ext.new hd1 cap
    have hN := h.note hk1 cap
    have hk' : upd H (k + 1) deadB k = none := by unfold upd; rw [if_neg (by omega)]; exact hk
    have hr1 : rnew ρ (k + 1) cap (k + 1) = some cap := by unfold rnew; rw [if_pos rfl]
    have hA := hN.add hk' (b := ⟨T, [], some true, some r⟩) rfl (m := g) (cs := cur) hg (fun i x hi hx => by
      unfold rnew at hi
      unfold upd at hx
      by_cases q : i = k + 1
      · rw [if_pos q] at hx; cases hx; exact fun l => l.1 rfl
      · rw [if_neg q] at hi hx; exact hfree i g x rfl hi hx) hc ⟨cap, hr1, q1, q2, q3, q4⟩
    refine ⟨_, e1.trans (Ext.new (hN.dom _ hk') g), hA, g, cap, ?_, ⟨?_, q3⟩, rfl⟩
    · unfold rnew; rw [if_pos rfl]
    · unfold rnew; rw [if_neg (by omega), if_pos rfl]
theorem hpF_bset (hp : List Blk) {k : Nat} {b : Blk} (hb : hp[k]? = some b) (y : Blk) : hpF (bset hp k y) = upd (hpF hp) k y := by
  funext i
  have hlt : k < hp.length := (List.getElem?_eq_some_iff.1 hb).1
  unfold hpF upd
  rw [bset_get]
  by_cases q : i = k
  · rw [if_pos ⟨q, hlt⟩, if_pos q]
  · rw [if_neg (fun e => q e.1), if_neg q]
theorem hpF_new (hp : List Blk) (y : Blk) : hpF (hp ++ [y]) = upd (hpF hp) hp.length y := by
  funext i
  unfold hpF upd
  by_cases q : i = hp.length
  · subst q; simp
  · rw [if_neg q]
    rcases Nat.lt_or_ge i hp.length with r | r
    · show (hp ++ [y])[i]? = hp[i]?
      rw [List.getElem?_append_left r]
    · show (hp ++ [y])[i]? = hp[i]?
      rw [List.getElem?_eq_none (by simp; omega), List.getElem?_eq_none r]
theorem hpF_none (hp : List Blk) : hpF hp hp.length = none := by simp [hpF]
end
section
variable {P : Program} {B : Nat} {w0 w : World} {ρ : Nat → Option Nat} {hp : List Blk}
theorem vals_some : ∀ {l : List AV} {r : List Value}, vals l = some r → r.length = l.length ∧ ∀ i, i < l.length → lget l i = .v (r.getD i undef)
  | [], r, h => by simp [vals] at h; subst h; simp
  | a :: l, r, h => by
    cases a with
    | v x =>
      simp only [vals] at h
      cases e : vals l with
      | none => simp [e] at h
      | some r' =>
        simp [e] at h
        subst h
        obtain ⟨h1, h2⟩ := vals_some e
        refine ⟨by simp [h1], fun i hi => ?_⟩
        cases i with
        | zero => rfl
        | succ i => simpa [lget] using h2 i (by simpa using hi)
    | _ => simp [vals] at h
theorem lget_drop : ∀ (l : List AV) (o i : Nat), lget (l.drop o) i = lget l (o + i)
  | [], o, i => by simp [lget]
  | _ :: l, 0, i => by simp
  | x :: l, o + 1, i => by rw [show o + 1 + i = (o + i) + 1 by omega]; simpa [lget] using lget_drop l o i
theorem lget_take : ∀ (l : List AV) (n i : Nat), i < n → lget (l.take n) i = lget l i
  | [], n, i, _ => by simp [lget]
  | _ :: l, 0, i, h => by omega
  | x :: l, n + 1, 0, _ => rfl
  | x :: l, n + 1, i + 1, h => by simpa [lget] using lget_take l n i (by omega)
theorem addr_add (n o j : Nat) : (⟨n, o, none⟩ : Addr).add j = ⟨n, o + j, none⟩ := by
  unfold Addr.add
  by_cases h : j = 0
  · subst h; rfl
  · rw [if_neg h]
def isAggD : TypeDesc → Bool
  | .struct _ | .array _ _ => true
  | _ => false
def simpleA : AV → Bool
  | .ag _ | .tu _ => false
  | _ => true
theorem simpleA_R0 {a : AV} {v : Value} (h : simpleA a = true) (hr : a.R ρ v) : a.R0 ρ v := by
  cases a <;> first | exact hr | (simp [simpleA] at h)
theorem RL0.of : ∀ {l : List AV} {vs : List Value}, l.length = vs.length → (∀ i, i < l.length → (lget l i).R0 ρ (vs.getD i undef)) → RL0 ρ l vs
  | [], [], _, _ => trivial
  | a :: l, v :: vs, hl, h => ⟨h 0 (by simp), RL0.of (by simpa using hl) fun i hi => by simpa [lget] using h (i + 1) (by simpa using hi)⟩
  | [], _ :: _, hl, _ => by simp at hl
  | _ :: _, [], hl, _ => by simp at hl
theorem lget_mem : ∀ {l : List AV} {i : Nat}, i < l.length → lget l i ∈ l
  | [], _, h => by simp at h
  | _ :: _, 0, _ => List.mem_cons_self ..
  | _ :: _, i + 1, h => List.mem_cons_of_mem _ (lget_mem (by simpa using h))
def loadK (P : Program) (b : Blk) (t : TypeId) (o : Nat) : Option AV :=
  match P.underlying t with
  | some d =>
    bif isAggD d then
      match P.info? t with
      | some i => bif Nat.ble (o + i.size) b.cs.length then (match vals ((b.cs.drop o).take i.size) with | some l => some (.v (.agg l.toArray)) | none => bif ((b.cs.drop o).take i.size).all simpleA then some (.ag ((b.cs.drop o).take i.size)) else none) else none
      | none => none
    else bif Nat.blt o b.cs.length then some (lget b.cs o) else none
  | none => none
def loadB (P : Program) (b : Blk) (t : TypeId) (o : Nat) : Option AV :=
  match b.own, b.row with
  | some _, none => loadK P b t o
  | _, _ => none
def loadX (P : Program) (hp : List Blk) (t : TypeId) (k o : Nat) : Option AV :=
  match hp[k]? with
  | some b => loadB P b t o
  | none => none
theorem run_isAggD {t : TypeId} {d : TypeDesc} (h : P.underlying t = some d) (w : World) : (isAgg t).run P w = .ok (isAggD d) w := by
  unfold isAgg
  simp only [Sem.run_bind, run_underlying h, Result.andThen_ok]
  cases d <;> rfl
theorem loadB_run {H : Nat → Option Blk} (h : Rel B w0 ρ H w) {t : TypeId} {k o n : Nat} {a : AV} {b : Blk} (hk : ρ k = some n) (hb : H k = some b) (hl : loadB P b t o = some a) :
    ∃ v, (loadVar t ⟨n, o, none⟩).run P w = .ok v w ∧ a.R ρ v := by
  unfold loadB at hl
  cases ho : b.own with
  | none => simp [ho] at hl
  | some ob =>
  cases hw : b.row with
  | some r => simp [ho, hw] at hl
  | none =>
  simp only [ho, hw] at hl
  have hlive : b.live := Blk.live_of ho hw
  unfold loadK at hl
  cases hu : P.underlying t with
  | none => simp [hu] at hl
  | some d =>
    simp only [hu] at hl
    unfold loadVar
    simp only [Sem.run_bind, run_isAggD hu, Result.andThen_ok]
    cases hd : isAggD d with
    | true =>
      simp only [hd, cond_true] at hl
      cases hi : P.info? t with
      | none => simp [hi] at hl
      | some i =>
        simp only [hi] at hl
        cases hs : Nat.ble (o + i.size) b.cs.length with
        | false => simp [hs] at hl
        | true =>
          simp only [hs, cond_true] at hl
          have hs' := Nat.le_of_ble_eq_true hs
          cases hv : vals ((b.cs.drop o).take i.size) with
          | none =>
            simp only [hv] at hl
            cases hsm : ((b.cs.drop o).take i.size).all simpleA with
            | false => simp [hsm] at hl
            | true =>
              simp only [hsm, cond_true, Option.some.injEq] at hl
              subst hl
              have hlen : ((b.cs.drop o).take i.size).length = i.size := by simp; omega
              have hz : (sizeOf t).run P w = .ok i.size w := by
                unfold sizeOf
                simp only [Sem.run_bind, run_typeInfo w hi, Result.andThen_ok]
                rfl
              obtain ⟨_, cs, ⟨T', fz, hcs, _⟩, hfit⟩ := h.blk k n b hk hb hlive
              unfold Blk.fit at hfit
              rw [hw] at hfit
              obtain ⟨f1, f2⟩ := hfit
              have hl2 : ((cs.toList.drop o).take i.size).length = i.size := by simp; omega
              have hget : ∀ j, j < i.size → ((cs.toList.drop o).take i.size)[j]? = some (cs.getD (o + j) undef) := fun j hj => by
                rw [List.getElem?_take, if_pos hj, List.getElem?_drop]
                have : o + j < cs.size := by omega
                simp [this]
              have hc := run_loadCells_list (P := P) w ⟨n, o, none⟩ ((cs.toList.drop o).take i.size) (fun j v hj => by
                have hj' := (List.getElem?_eq_some_iff.1 hj).1
                rw [hget j (by omega)] at hj
                cases hj
                rw [addr_add]
                unfold World.cell?
                simp only [hcs]
                have : o + j < cs.size := by omega
                simp [this])
              rw [hl2] at hc
              simp only [if_true, Sem.run_bind, hz, Result.andThen_ok, hc]
              refine ⟨_, rfl, (cs.toList.drop o).take i.size, rfl, RL0.of (by rw [hlen, hl2]) fun j hj => ?_⟩
              have hj' : j < i.size := by omega
              have e1 : lget ((b.cs.drop o).take i.size) j = lget b.cs (o + j) := by rw [lget_take _ _ _ hj', lget_drop]
              have e2 : ((cs.toList.drop o).take i.size).getD j undef = cs.getD (o + j) undef := by rw [List.getD_eq_getElem?_getD, hget j hj']; rfl
              refine simpleA_R0 (List.all_eq_true.1 hsm _ (lget_mem (by omega))) ?_
              rw [e1, e2]
              exact f2 (o + j) (by omega)
          | some l =>
            simp only [hv, Option.some.injEq] at hl
            subst hl
            obtain ⟨h1, h2⟩ := vals_some hv
            have hlen : l.length = i.size := by rw [h1]; simp; omega
            have hz : (sizeOf t).run P w = .ok i.size w := by
              unfold sizeOf
              simp only [Sem.run_bind, run_typeInfo w hi, Result.andThen_ok]
              rfl
            have hc := run_loadCells_list (P := P) w ⟨n, o, none⟩ l (fun j v hj => by
              have hj' := (List.getElem?_eq_some_iff.1 hj).1
              have e1 := h2 j (by rw [← h1]; exact hj')
              rw [lget_take _ _ _ (by omega), lget_drop] at e1
              obtain ⟨v', hv1, hv2⟩ := h.cell hk hb hlive hw (o := o + j) (by omega)
              rw [e1] at hv2
              have : v' = l.getD j undef := hv2
              rw [show l.getD j undef = v from by simp [List.getD, hj]] at this
              subst this
              have ha : (⟨n, o, none⟩ : Addr).add j = ⟨n, o + j, none⟩ := addr_add n o j
              rw [ha, hv1])
            rw [hlen] at hc
            simp only [if_true, Sem.run_bind, hz, Result.andThen_ok, hc]
            exact ⟨_, rfl, rfl⟩
    | false =>
      simp only [hd, cond_false] at hl
      cases hs : Nat.blt o b.cs.length with
      | false => simp [hs] at hl
      | true =>
        simp only [hs, cond_true, Option.some.injEq] at hl
        subst hl
        have hs' : o < b.cs.length := Nat.le_of_ble_eq_true hs
        obtain ⟨v, hv1, hv2⟩ := h.cell hk hb hlive hw hs'
        refine ⟨v, ?_, hv2⟩
        simp only [Bool.false_eq_true, if_false]
        rw [run_load, hv1]
theorem loadX_run (h : Rel B w0 ρ (hpF hp) w) {t : TypeId} {k o n : Nat} {a : AV} (hk : ρ k = some n) (hl : loadX P hp t k o = some a) :
    ∃ v, (loadVar t ⟨n, o, none⟩).run P w = .ok v w ∧ a.R ρ v := by
  unfold loadX at hl
  cases hb : hp[k]? with
  | none => simp [hb] at hl
  | some b => simp only [hb] at hl; exact loadB_run h hk hb hl
def cellsOf : AV → Option (List AV)
  | .v x => some (x.cells.toList.map .v)
  | .p k o => some [.p k o]
  | .c f l => some [.c f l]
  | .s k o n c => some [.s k o n c]
  | .rs k n => some [.rs k n]
  | .os k n => some [.os k n]
  | .ps k o z n => some [.ps k o z n]
  | .sl k o z n => some [.sl k o z n]
  | .e _ _ _ _ => none
  | .fe _ _ _ _ => none
  | .any => none
  | .ag l => some l
  | .tu _ => none
theorem AV.R0_R {ρ : Nat → Option Nat} {a : AV} {v : Value} (h : a.R0 ρ v) : a.R ρ v := by
  cases a <;> first | exact h | exact h.elim
theorem RL0.length {ρ : Nat → Option Nat} : ∀ {as : List AV} {vs : List Value}, RL0 ρ as vs → as.length = vs.length
  | [], [], _ => rfl
  | _ :: _, _ :: _, hr => by simp [RL0.length hr.2]
  | [], _ :: _, hr => hr.elim
  | _ :: _, [], hr => hr.elim
theorem RL0.get {ρ : Nat → Option Nat} : ∀ {as : List AV} {vs : List Value}, RL0 ρ as vs → ∀ i, i < as.length → (lget as i).R0 ρ (vs.getD i undef)
  | [], [], _, i, hi => by simp at hi
  | _ :: _, _ :: _, hr, 0, _ => hr.1
  | _ :: _, _ :: _, hr, i + 1, hi => by simpa [lget] using RL0.get hr.2 i (by simpa using hi)
  | [], _ :: _, hr, _, _ => hr.elim
  | _ :: _, [], hr, _, _ => hr.elim
theorem lget_map (l : List Value) : ∀ i, i < l.length → lget (l.map .v) i = .v (l.getD i undef) := by
  induction l with
  | nil => intro i h; simp at h
  | cons x l ih =>
    intro i h
    cases i with
    | zero => rfl
    | succ i => simpa [lget] using ih i (by simpa using h)
theorem cellsOf_R {a : AV} {l : List AV} {v : Value} (h : cellsOf a = some l) (hr : a.R ρ v) :
    v.cells.size = l.length ∧ ∀ i, i < l.length → (lget l i).R ρ (v.cells.getD i undef) := by
  cases a with
  | v x =>
    simp [cellsOf] at h
    subst h
    have hr : v = x := hr
    subst hr
    refine ⟨by simp, fun i hi => ?_⟩
    rw [lget_map _ _ (by simpa using hi)]
    show _ = _
    simp [List.getD, Array.getD_eq_getD_getElem?]
  | p k o =>
    simp [cellsOf] at h
    subst h
    have hr' := hr
    obtain ⟨n, _, rfl⟩ := hr'
    refine ⟨rfl, fun i hi => ?_⟩
    obtain rfl : i = 0 := by simpa using hi
    exact hr
  | c f q =>
    simp [cellsOf] at h
    subst h
    have hr' := hr
    obtain ⟨n, _, rfl⟩ := hr'
    refine ⟨rfl, fun i hi => ?_⟩
    obtain rfl : i = 0 := by simpa using hi
    exact hr
  | s k o n c =>
    simp [cellsOf] at h
    subst h
    have hr' := hr
    obtain ⟨m, _, rfl⟩ := hr'
    refine ⟨rfl, fun i hi => ?_⟩
    obtain rfl : i = 0 := by simpa using hi
    exact hr
  | rs k n =>
    simp [cellsOf] at h
    subst h
    have hr' := hr
    obtain ⟨m, c, _, _, rfl⟩ := hr'
    refine ⟨rfl, fun i hi => ?_⟩
    obtain rfl : i = 0 := by simpa using hi
    exact hr
  | os k n =>
    simp [cellsOf] at h
    subst h
    have hr' : v.cells = #[v] := by
      by_cases h0 : n = 0
      · rw [hr.1 h0]; rfl
      · obtain ⟨m, c, _, _, rfl⟩ := hr.2 h0; rfl
    refine ⟨by rw [hr']; rfl, fun i hi => ?_⟩
    obtain rfl : i = 0 := by simpa using hi
    rw [hr']
    exact hr
  | ps k o z n =>
    simp [cellsOf] at h
    subst h
    have hr' : v.cells = #[v] := by
      by_cases h0 : n = 0
      · obtain ⟨_, _, rfl⟩ := hr.1 h0; rfl
      · obtain ⟨m, c, _, _, rfl⟩ := hr.2 h0; rfl
    refine ⟨by rw [hr']; rfl, fun i hi => ?_⟩
    obtain rfl : i = 0 := by simpa using hi
    rw [hr']
    exact hr
  | sl k o z n =>
    simp [cellsOf] at h
    subst h
    have hr' : v.cells = #[v] := by
      by_cases h0 : n = 0
      · obtain ⟨_, _, rfl⟩ := hr.1 h0; rfl
      · obtain ⟨m, c, _, _, _, rfl⟩ := hr.2 h0; rfl
    refine ⟨by rw [hr']; rfl, fun i hi => ?_⟩
    obtain rfl : i = 0 := by simpa using hi
    rw [hr']
    exact hr
  | ag q =>
    simp [cellsOf] at h
    subst h
    obtain ⟨vs, rfl, hq⟩ := hr
    refine ⟨by simp [Value.cells, hq.length], fun i hi => ?_⟩
    have := AV.R0_R (hq.get i hi)
    simpa [Value.cells, List.getD, Array.getD_eq_getD_getElem?] using this
  | e k j z f => simp [cellsOf] at h
  | fe k j z f => simp [cellsOf] at h
  | any => simp [cellsOf] at h
  | tu l => simp [cellsOf] at h
def oneC : AV → Bool
  | .v (.agg _) | .v (.tuple _) | .any | .e _ _ _ _ | .fe _ _ _ _ | .ag _ | .tu _ => false
  | _ => true
theorem oneC_R {a : AV} {v : Value} (h : oneC a = true) (hr : a.R ρ v) : (∀ c, v ≠ .agg c) ∧ (∀ c, v ≠ .tuple c) := by
  cases a with
  | v x => have hr : v = x := hr; subst hr; cases v <;> simp_all [oneC]
  | p k o => obtain ⟨n, _, rfl⟩ := hr; simp
  | c f q => obtain ⟨n, _, rfl⟩ := hr; simp
  | s k o n c => obtain ⟨m, _, rfl⟩ := hr; simp
  | rs k n => obtain ⟨m, c, _, _, rfl⟩ := hr; simp
  | os k n =>
    by_cases h0 : n = 0
    · rw [hr.1 h0]; simp
    · obtain ⟨m, c, _, _, rfl⟩ := hr.2 h0; simp
  | ps k o z n =>
    by_cases h0 : n = 0
    · obtain ⟨_, _, rfl⟩ := hr.1 h0; simp
    · obtain ⟨m, c, _, _, rfl⟩ := hr.2 h0; simp
  | sl k o z n =>
    by_cases h0 : n = 0
    · obtain ⟨_, _, rfl⟩ := hr.1 h0; simp
    · obtain ⟨m, c, _, _, _, rfl⟩ := hr.2 h0; simp
  | e k j z f => simp [oneC] at h
  | fe k j z f => simp [oneC] at h
  | any => simp [oneC] at h
  | ag l => simp [oneC] at h
  | tu l => simp [oneC] at h
def lsets : List AV → Nat → List AV → List AV
  | cs, _, [] => cs
  | cs, o, a :: l => lsets (lset cs o a) (o + 1) l
def isMine (b : Blk) : Bool := match b.own with | some true => true | _ => false
theorem isMine_iff {b : Blk} (h : isMine b = true) : b.own = some true := by
  unfold isMine at h
  split at h
  · assumption
  · cases h
def storeB (P : Program) (b : Blk) (t : TypeId) (o : Nat) (a : AV) : Option Blk :=
  match cellsOf a, P.info? t with
  | some l, some i => bif (isMine b && b.row.isNone && (Nat.beq l.length i.size && Nat.ble (o + l.length) b.cs.length && l.all oneC)) then some { b with cs := lsets b.cs o l } else none
  | _, _ => none
def storeX (P : Program) (hp : List Blk) (t : TypeId) (k o : Nat) (a : AV) : Option (List Blk) :=
  match hp[k]? with
  | some b => match storeB P b t o a with | some y => some (bset hp k y) | none => none
  | none => none
theorem run_store_cell (a : Addr) (v u : Value) (w : World) (hc : w.cell? a = some u) (hf : w.frozen? a = false) (h1 : (∀ c, v ≠ .agg c) ∧ (∀ c, v ≠ .tuple c)) :
    (store a v).run P w = .ok () (w.setCell a v) := by
  unfold store
  cases v <;> simp_all [Sem.run]
theorem upd_upd (H : Nat → Option Blk) (k : Nat) (x y : Blk) : upd (upd H k x) k y = upd H k y := by
  funext i
  unfold upd
  split <;> rfl
theorem upd_self {H : Nat → Option Blk} {k : Nat} {x : Blk} (h : H k = some x) : upd H k x = H := by
  funext i
  unfold upd
  split
  · rename_i e; rw [e, h]
  · rfl
theorem storeCells_run {k n : Nat} (hk : ρ k = some n) : ∀ (vs : List Value) (as : List AV) (o i : Nat) {H : Nat → Option Blk} {w : World} (b : Blk), Rel B w0 ρ H w → H k = some b → b.row = none → b.own = some true →
    vs.length = as.length → (∀ j, j < as.length → (lget as j).R ρ (vs.getD j undef)) → as.all oneC = true → o + i + as.length ≤ b.cs.length →
    ∃ w', (storeCells ⟨n, o, none⟩ vs i).run P w = .ok () w' ∧ Rel B w0 ρ (upd H k { b with cs := lsets b.cs (o + i) as }) w'
  | [], as, o, i, H, w, b, h, hb, hw, hown, hl, hr, h1, hs => by
    obtain rfl : as = [] := by cases as <;> simp_all
    refine ⟨w, rfl, ?_⟩
    simp only [lsets]
    rw [upd_self hb]
    exact h
  | v :: vs, [], o, i, H, w, b, h, hb, hw, hown, hl, hr, h1, hs => by simp at hl
  | v :: vs, a :: as, o, i, H, w, b, h, hb, hw, hown, hl, hr, h1, hs => by
    have ha : (⟨n, o, none⟩ : Addr).add i = ⟨n, o + i, none⟩ := addr_add n o i
    have hlen : o + i < b.cs.length := by simp at hs; omega
    have r0 := hr 0 (by simp)
    simp only [lget, List.getD_cons_zero] at r0
    simp only [List.all_cons, Bool.and_eq_true] at h1
    obtain ⟨u, hu, _⟩ := h.cell hk hb (Blk.live_of hown hw) hw hlen
    have hst := run_store_cell (P := P) ⟨n, o + i, none⟩ v u w hu (h.frozen hk hb (Blk.live_of hown hw) hown) (oneC_R h1.1 r0)
    have hput := h.put hk hb hw hown hlen r0
    obtain ⟨w', hw', hR⟩ := storeCells_run hk vs as o (i + 1) { b with cs := lset b.cs (o + i) a } hput (by unfold upd; rw [if_pos rfl]) hw hown (by simpa using hl)
      (fun j hj => by simpa [lget] using hr (j + 1) (by simpa using hj)) h1.2 (by simp [lset_length] at hs ⊢; omega)
    refine ⟨w', ?_, ?_⟩
    · simp only [storeCells, Sem.run_bind, ha, hst, Result.andThen_ok, hw']
    · rw [upd_upd] at hR
      simpa [lsets, Nat.add_assoc] using hR
theorem storeB_run {H : Nat → Option Blk} (h : Rel B w0 ρ H w) {t : TypeId} {k o n : Nat} {a : AV} {v : Value} {b y : Blk} (hk : ρ k = some n) (hb : H k = some b) (hr : a.R ρ v) (hl : storeB P b t o a = some y) :
    ∃ w', (storeVar t ⟨n, o, none⟩ v).run P w = .ok () w' ∧ Rel B w0 ρ (upd H k y) w' := by
  unfold storeB at hl
  cases hc : cellsOf a with
  | none => simp [hc] at hl
  | some l =>
    cases hi : P.info? t with
    | none => simp [hc, hi] at hl
    | some i =>
      simp only [hc, hi] at hl
      cases hs : (isMine b && b.row.isNone && (Nat.beq l.length i.size && Nat.ble (o + l.length) b.cs.length && l.all oneC)) with
      | false => simp [hs] at hl
      | true =>
        simp only [hs, cond_true, Option.some.injEq] at hl
        subst hl
        simp only [Bool.and_eq_true] at hs
        obtain ⟨⟨hown, hw⟩, ⟨e1, e2⟩, e3⟩ := hs
        have hw : b.row = none := by cases e : b.row <;> simp_all
        have hown := isMine_iff hown
        have e1 := Nat.eq_of_beq_eq_true e1
        have e2 := Nat.le_of_ble_eq_true e2
        obtain ⟨c1, c2⟩ := cellsOf_R hc hr
        have hz : (sizeOf t).run P w = .ok i.size w := by
          unfold sizeOf
          simp only [Sem.run_bind, run_typeInfo w hi, Result.andThen_ok]
          rfl
        obtain ⟨w', hw', hR⟩ := storeCells_run (P := P) hk v.cells.toList l o 0 b h hb hw hown (by simpa using c1) (fun j hj => by have := c2 j hj; simpa [List.getD, Array.getD_eq_getD_getElem?] using this) e3 (by simpa using e2)
        refine ⟨w', ?_, by simpa using hR⟩
        unfold storeVar
        simp only [Sem.run_bind, hz, Result.andThen_ok]
        rw [if_neg (by rw [c1, e1]; simp)]
        simpa using hw'
theorem storeX_run (h : Rel B w0 ρ (hpF hp) w) {t : TypeId} {k o n : Nat} {a : AV} {v : Value} {hp' : List Blk} (hk : ρ k = some n) (hr : a.R ρ v) (hl : storeX P hp t k o a = some hp') :
    ∃ w', (storeVar t ⟨n, o, none⟩ v).run P w = .ok () w' ∧ Rel B w0 ρ (hpF hp') w' := by
  unfold storeX at hl
  cases hb : hp[k]? with
  | none => simp [hb] at hl
  | some b =>
    simp only [hb] at hl
    cases hy : storeB P b t o a with
    | none => simp [hy] at hl
    | some y =>
      simp only [hy, Option.some.injEq] at hl
      subst hl
      rw [hpF_bset hp hb]
      exact storeB_run h hk hb hr hy
end
section
variable {P : Program} {B : Nat} {w0 w : World} {ρ : Nat → Option Nat} {hp : List Blk}
abbrev FSpec := List Value → Option (Prop × Value)
def Ans (P : Program) (Φ : World → Prop) (f : FuncId) (args : List Value) (v : Value) : Prop :=
  ∀ w, Φ w → Calls P f args.toArray w fun e w' => e = .returned v ∧ Below w.heap.size w w'
/-! Contracts of functions that are handed slices, and hand slices back. -/
inductive CD where
  | v (x : Value)
  | r (T : TypeId) (t : ET) (xs : List t.ty)
  | same (j : Nat)
inductive AD where
  | one (c : CD)
  | agg (l : List CD)
def flatCD : List AD → List CD
  | [] => []
  | .one c :: l => c :: flatCD l
  | .agg l :: r => l ++ flatCD r
def ADSh : List AD → List Value → List Value → Prop
  | [], [], cells => cells = []
  | .one _ :: as, v :: vs, cells => ∃ cs, cells = v :: cs ∧ ADSh as vs cs
  | .agg l :: as, v :: vs, cells => ∃ us cs, v = .agg us.toArray ∧ us.length = l.length ∧ cells = us ++ cs ∧ ADSh as vs cs
  | _, _, _ => False
structure Holds (w : World) (v : Value) (T : TypeId) (t : ET) (xs : List t.ty) : Prop where
  zero : xs.length = 0 → ∃ a c, v = .slice a 0 c
  some' : xs.length ≠ 0 → ∃ b off c cs T' fz, v = .slice (some ⟨b, off, none⟩) xs.length c ∧ xs.length ≤ c ∧ w.heap[b]? = some (.cells cs T' fz) ∧ (cs.toList.drop off).take (xs.length * t.enc.z) = xs.flatMap t.enc.enc
def CDR (w : World) : CD → Value → Prop
  | .v x, v => v = x
  | .r T t xs, v => Holds w v T t xs
  | .same _, _ => False
def CDRs (w : World) : List CD → List Value → Prop
  | [], [] => True
  | c :: cs, v :: vs => CDR w c v ∧ CDRs w cs vs
  | _, _ => False
def SameSl (u v : Value) : Prop := ∃ n a a' c c', u = .slice a n c ∧ v = .slice a' n c' ∧ (n ≠ 0 → a' = a ∧ n ≤ c')
structure NewRow (B : Nat) (w : World) (T : TypeId) (t : ET) (zs : List t.ty) (v : Value) (g : Nat) : Prop where
  base : B ≤ g
  ex : ∃ c cap cs, v = .slice (some ⟨g, 0, none⟩) zs.length c ∧ zs.length ≤ c ∧ w.heap[g]? = some (.cells cs T (0, 0)) ∧ cs.size = cap * t.enc.z ∧ cap ≤ maxLen ∧ zs.length ≤ cap ∧ cs.toList.take (zs.length * t.enc.z) = zs.flatMap t.enc.enc
def CDN (B : Nat) (w : World) (ins : List Value) : List CD → List Value → List Nat → Prop
  | [], [], gs => gs = []
  | .v x :: cs, v :: vs, gs => v = x ∧ CDN B w ins cs vs gs
  | .r T t zs :: cs, v :: vs, gs => (zs.length = 0 ∧ (∃ a c, v = .slice a 0 c) ∧ CDN B w ins cs vs gs) ∨ (zs.length ≠ 0 ∧ ∃ g gs', gs = g :: gs' ∧ NewRow B w T t zs v g ∧ CDN B w ins cs vs gs')
  | .same j :: cs, v :: vs, gs => (∃ u, ins[j]? = some u ∧ SameSl u v) ∧ CDN B w ins cs vs gs
  | _, _, _ => False
def oneV : List Value → Value
  | [v] => v
  | l => .tuple l.toArray
def RAns (P : Program) (Φ : World → Prop) (f : FuncId) (ads rds : List AD) : Prop :=
  ∀ w vs cells, Φ w → ADSh ads vs cells → CDRs w (flatCD ads) cells → Calls P f vs.toArray w fun e w' =>
    Below w.heap.size w w' ∧ ∃ rvs rcells gs, e = .returned (oneV rvs) ∧ ADSh rds rvs rcells ∧ CDN w.heap.size w' cells (flatCD rds) rcells gs ∧ gs.Nodup
abbrev RSpec := List AD → Option (Prop × List AD)
def Caps (w : World) : List Value → List (List Value) → Prop
  | [], [] => True
  | x :: xs, c :: cs => (∃ b T fz, x = .pointer (some ⟨b, 0, none⟩) ∧ w.heap[b]? = some (.cells c.toArray T fz)) ∧ Caps w xs cs
  | _, _ => False
def KAns (P : Program) (Φ : World → Prop) (f : FuncId) (args : List Value) (cells : List (List Value)) (v : Value) : Prop :=
  ∀ w ps, Φ w → Caps w ps cells → Calls P f (args ++ ps).toArray w fun e w' => e = .returned v ∧ Below w.heap.size w w'
abbrev KSpec := List Value → List (List Value) → Option (Prop × Value)
def PAns (P : Program) (Φ : World → Prop) (f : FuncId) (args cell : List Value) (v : Value) : Prop :=
  ∀ w b T, Φ w → w.heap[b]? = some (.cells cell.toArray T (0, 0)) → Calls P f (Value.pointer (some ⟨b, 0, none⟩) :: args).toArray w fun e w' => e = .returned v ∧ Below w.heap.size w w'
abbrev PSpec := List Value → List Value → Option (Prop × Value)
abbrev QSpec := List Value → Option (Prop × ((Value → Prop) → Prop))
def WAns (P : Program) (f : FuncId) (T : TypeId) (t : ET) (xs : List t.ty) (i : Int) (ys zs : List t.ty) : Prop :=
  ∀ B w v g c cs, B ≤ w.heap.size → w.ownsRow B T t.enc.z v xs.length (xs.flatMap t.enc.enc) → v.ownBlock ≠ some g → w.heap[g]? = some (.cells cs T (0, 0)) → cs.size = c * t.enc.z → ys.length ≤ c → cs.toList.take (ys.length * t.enc.z) = ys.flatMap t.enc.enc →
    Calls P f #[v, .int .i64 i, .slice (some ⟨g, 0, none⟩) ys.length c] w fun e w' => ∃ v', e = .returned v' ∧ w'.ownsRow B T t.enc.z v' zs.length (zs.flatMap t.enc.enc) ∧ w.grownBy w' v.ownBlock ∧ v' ≠ .slice none 0 0 ∧ ∀ k, v'.ownBlock = some k → v.ownBlock = some k ∨ w.heap.size ≤ k
structure WSpec where
  T : TypeId
  t : ET
  sp : List t.ty → Int → List t.ty → Option (Prop × List t.ty)
def OAns (P : Program) (Φ : World → Prop) (f : FuncId) (T : TypeId) (t : ET) (ys : List t.ty) : Prop :=
  ∀ w v, Φ w → Holds w v T t ys → Calls P f #[v] w fun e w' => ∃ v', e = .returned v' ∧ Below w.heap.size w w' ∧ w'.ownsRow w.heap.size T t.enc.z v' ys.length (ys.flatMap t.enc.enc) ∧ v' ≠ .slice none 0 0
structure OSpec where
  T : TypeId
  t : ET
  ok : List t.ty → Prop
def RL (ρ : Nat → Option Nat) : List AV → List Value → Prop
  | [], [] => True
  | a :: as, v :: vs => a.R ρ v ∧ RL ρ as vs
  | _, _ => False
abbrev ISpec := List AV → List Blk → (AV → List Blk → Prop) → Prop
def InlOk (P : Program) (Φ : World → Prop) (f : FuncId) (s : ISpec) : Prop :=
  ∀ (B : Nat) (w0 : World) args hp K w ρ vs, s args hp K → Φ w → Rel B w0 ρ (hpF hp) w → RL ρ args vs →
    Calls P f vs.toArray w fun e w' => ∃ ρ' hp' av v, e = .returned v ∧ Ext ρ ρ' ∧ Rel B w0 ρ' (hpF hp') w' ∧ AV.R ρ' av v ∧ K av hp'
inductive CSpec where
  | v (s : FSpec)
  | r (s : RSpec)
  | q (s : QSpec)
  | e (s : QSpec)
  | k (s : KSpec)
  | w (s : WSpec)
  | o (s : OSpec)
  | i (s : ISpec)
  | p (s : PSpec)
def spec (Γ : List (FuncId × CSpec)) (f : FuncId) : Option CSpec :=
  match Γ with
  | [] => none
  | (g, s) :: l => bif Nat.beq g f then some s else spec l f
def CSpec.holds (P : Program) (Φ : World → Prop) (f : FuncId) : CSpec → Prop
  | .v s => ∀ args p v, s args = some (p, v) → p → Ans P Φ f args v
  | .r s => ∀ ads p rds, s ads = some (p, rds) → p → RAns P Φ f ads rds
  | .q s => ∀ args p Q, s args = some (p, Q) → p → ∀ K, Q K → ∃ v, Ans P Φ f args v ∧ K v
  | .e s => ∀ args p Q, s args = some (p, Q) → p → ∀ K, Q K → ∃ v, K v ∧ ∀ w, (callFunc f args.toArray).run P w = .ok (.value v) w
  | .k s => ∀ args cells p v, s args cells = some (p, v) → p → KAns P Φ f args cells v
  | .w s => ∀ xs i ys p zs, s.sp xs i ys = some (p, zs) → p → WAns P f s.T s.t xs i ys zs
  | .o s => ∀ ys, ys ≠ [] → s.ok ys → OAns P Φ f s.T s.t ys
  | .i s => InlOk P Φ f s
  | .p s => ∀ args cell p v, s args cell = some (p, v) → p → PAns P Φ f args cell v
def CSpec.callable (P : Program) (f : FuncId) : CSpec → Prop
  | .e _ => True
  | _ => ∃ fn, P.funcs[f]? = some fn ∧ (fn.name == "runtime.NumGoroutine") = false ∧ fn.body.isSome = true
def Sound (P : Program) (Φ : World → Prop) (Γ : List (FuncId × CSpec)) : Prop :=
  ∀ f s, spec Γ f = some s → s.callable P f ∧ s.holds P Φ f
abbrev Inl := FuncId → List AV → List Blk → (AV → List Blk → Prop) → Prop
def gen (P : Program) (o : Oper) (st : AS) (K : AV → List Blk → Prop) : Prop :=
  bif o.op.operands.toList.all (fun x => isV (ev st.tm x)) then
    match pureRun P (execOp (evV st.tm) o) with
    | some (.value v) => K (.v v) st.hp
    | _ => False
  else False
def fieldX (P : Program) (s : TypeId) (f : Nat) : Option Nat :=
  match P.underlying s with
  | some (.struct fields) =>
    match fields[f]? with
    | some d => match P.info? d.type with | some i => bif Nat.beq i.size 0 then none else some d.offset | none => none
    | none => none
  | _ => none
def ptrsOf : List AV → Option (List (Nat × Nat))
  | [] => some []
  | .p k o :: l => match ptrsOf l with | some r => some ((k, o) :: r) | none => none
  | _ :: _ => none
def andI (k : IntKind) (a b : Int) : Int := k.wrap ((BitVec.ofInt k.bits a &&& BitVec.ofInt k.bits b).toNat : Nat)
def orI (k : IntKind) (a b : Int) : Int := k.wrap ((BitVec.ofInt k.bits a ||| BitVec.ofInt k.bits b).toNat : Nat)
def tooLong (a b : ByteArray) : Bool := decide (((a.size + b.size : Nat) : Int) > IntKind.i64.max)
def eqFs (P : Program) (rec : TypeId → Value → Value → Option Bool) (xs ys : Array Value) : List Field → Option Bool
  | [] => some true
  | f :: fs =>
    bif f.name == "_" then eqFs P rec xs ys fs else
    match pureRun P (part f.type xs f.offset), pureRun P (part f.type ys f.offset) with
    | some a, some b => (match rec f.type a b with | some r => (match eqFs P rec xs ys fs with | some q => some (r && q) | none => none) | none => none)
    | _, _ => none
def eqIs (P : Program) (rec : TypeId → Value → Value → Option Bool) (e : TypeId) (c : Nat) (xs ys : Array Value) : List Nat → Option Bool
  | [] => some true
  | i :: is =>
    match pureRun P (part e xs (i * c)), pureRun P (part e ys (i * c)) with
    | some a, some b => (match rec e a b with | some r => (match eqIs P rec e c xs ys is with | some q => some (r && q) | none => none) | none => none)
    | _, _ => none
def eqV (P : Program) : Nat → TypeId → Value → Value → Option Bool
  | 0, _, _, _ => none
  | d + 1, t, x, y =>
    match P.underlying t with
    | some .bool => (match x, y with | .bool a, .bool b => some (a == b) | _, _ => none)
    | some (.int _) => (match x, y with | .int k a, .int k' b => bif decide (k = k') then some (a == b) else none | _, _ => none)
    | some .string => (match x, y with | .string a, .string b => some (a.toList == b.toList) | _, _ => none)
    | some (.struct fs) => (match x, y with | .agg xs, .agg ys => bif P.stoodInHeld t then none else eqFs P (eqV P d) xs ys fs.toList | _, _ => none)
    | some (.array n e) => (match x, y with | .agg xs, .agg ys => (match P.info? e with | some _ => eqIs P (eqV P d) e (P.cellsOf e) xs ys (List.range n) | none => none) | _, _ => none)
    | _ => none
theorem eqIs_run {d e : Nat} (ih : ∀ t x y b, eqV P d t x y = some b → ∀ w, (Op.equalIn (e + d) t x y).run P w = .ok b w) (t : TypeId) (c : Nat) (xs ys : Array Value) : ∀ (is : List Nat) (b : Bool), eqIs P (eqV P d) t c xs ys is = some b → ∀ w, (Op.eqItems (e + d) t c xs ys is).run P w = .ok b w
  | [], b, h, w => by simp [eqIs] at h; subst h; simp [Op.eqItems]
  | i :: is, b, h, w => by
    simp only [eqIs] at h
    split at h
    · rename_i x y hx hy
      split at h
      · rename_i r hr
        split at h
        · rename_i q hq
          cases h
          simp only [Op.eqItems, Sem.run_bind, pureRun_run hx, pureRun_run hy, Result.andThen_ok, ih _ _ _ _ hr w]
          cases r
          · simp
          · simpa using eqIs_run ih t c xs ys is q hq w
        · cases h
      · cases h
    · cases h
theorem eqFs_run {d e : Nat} (ih : ∀ t x y b, eqV P d t x y = some b → ∀ w, (Op.equalIn (e + d) t x y).run P w = .ok b w) (xs ys : Array Value) : ∀ (fs : List Field) (b : Bool), eqFs P (eqV P d) xs ys fs = some b → ∀ w, (Op.eqFields (e + d) xs ys fs).run P w = .ok b w
  | [], b, h, w => by simp [eqFs] at h; subst h; rfl
  | f :: fs, b, h, w => by
    simp only [eqFs] at h
    cases hn : (f.name == "_") with
    | true =>
      simp only [hn, cond_true] at h
      have : f.name = "_" := by simpa using hn
      simp only [Op.eqFields, this, ne_eq, not_true_eq_false, if_false]
      exact eqFs_run ih xs ys fs b h w
    | false =>
      simp only [hn, cond_false] at h
      have hne : f.name ≠ "_" := by simpa using hn
      split at h
      · rename_i x y hx hy
        split at h
        · rename_i r hr
          split at h
          · rename_i q hq
            cases h
            simp only [Op.eqFields, hne, ne_eq, not_false_eq_true, if_true, Sem.run_bind, pureRun_run hx, pureRun_run hy, Result.andThen_ok, ih _ _ _ _ hr w]
            cases r
            · rfl
            · simpa using eqFs_run ih xs ys fs q hq w
          · cases h
        · cases h
      · cases h
theorem eqV_run (e : Nat) : ∀ (d : Nat) (t : TypeId) (x y : Value) (b : Bool), eqV P d t x y = some b → ∀ w, (Op.equalIn (e + d) t x y).run P w = .ok b w
  | 0, _, _, _, _, h, _ => by cases h
  | d + 1, t, x, y, b, h, w => by
    simp only [eqV] at h
    split at h
    · rename_i hu
      split at h
      · cases h; exact run_equalIn_bool' w (e + d) t _ _ hu
      · cases h
    · rename_i hu
      split at h
      · rename_i k a k' b'
        by_cases hk : k = k'
        · subst hk; simp at h; subst h; exact run_equalIn_int w (e + d) t k _ _ _ hu
        · simp [hk] at h
      · cases h
    · rename_i hu
      split at h
      · cases h; exact run_equalIn_string w (e + d) t _ _ hu
      · cases h
    · rename_i fs hu
      split at h
      · rename_i xs ys
        cases hs : P.stoodInHeld t with
        | true => simp [hs] at h
        | false =>
          simp only [hs, cond_false] at h
          have hfo : P.fieldsOf t = fs := by unfold Program.fieldsOf; rw [hu]
          rw [show e + (d + 1) = (e + d) + 1 by omega, run_equalIn_struct w (e + d) t xs ys (by rw [hfo]; exact hu) hs, hfo]
          exact eqFs_run (fun t x y b h w => eqV_run e d t x y b h w) xs ys fs.toList b h w
      · cases h
    · rename_i n el hu
      split at h
      · rename_i xs ys
        split at h
        · rename_i i hi
          rw [show e + (d + 1) = (e + d) + 1 by omega, run_equalIn_array w (e + d) xs ys hu hi]
          exact eqIs_run (fun t x y b h w => eqV_run e d t x y b h w) el _ xs ys _ b h w
        · cases h
      · cases h
    · cases h
def eqlX (P : Program) (t : TypeId) (x y : Value) : Option Bool :=
  match x, y with
  | .agg _, .agg _ => bif P.eqGuardType P.depth t then none else eqV P 8 t x y
  | _, _ => none
theorem eqlX_run {t : TypeId} {x y : Value} {b : Bool} (h : eqlX P t x y = some b) (p q : Operand) (w : World) :
    ((do eqGuard .eql t p q x y; binOp .eql t x y : Sem Value).run P w = .ok (.bool b) w) ∧ ((do eqGuard .neq t p q x y; binOp .neq t x y : Sem Value).run P w = .ok (.bool (!b)) w) := by
  unfold eqlX at h
  split at h
  · rename_i xs ys
    cases hg : P.eqGuardType P.depth t with
    | true => simp [hg] at h
    | false =>
      simp only [hg, cond_false] at h
      have h1 := eqV_run 9992 8 t _ _ b h w
      constructor
      · rw [Sem.run_bind, run_eqGuard_agg w .eql t p q xs ys hg, Result.andThen_ok, run_eql_struct w t xs ys]
        show Result.andThen (Sem.run P (Op.equalIn (9992 + 8) t _ _) w) _ = _
        rw [h1]; rfl
      · rw [Sem.run_bind, run_eqGuard_agg w .neq t p q xs ys hg, Result.andThen_ok, run_neq_struct w t xs ys]
        show Result.andThen (Sem.run P (Op.equalIn (9992 + 8) t _ _) w) _ = _
        rw [h1]; rfl
  · cases h
def binX (P : Program) (o : Oper) (op : BinOp) (t : TypeId) (x y : AV) (st : AS) (K : AV → List Blk → Prop) : Prop :=
  match op, x, y with
  | .quo, .v (.int k a), .v (.int k' b) => bif decide (k = k') then bcase (b == 0) False (K (.v (.int k (k.wrap (a.tdiv b)))) st.hp) else False
  | .rem, .v (.int k a), .v (.int k' b) => bif decide (k = k') then bcase (b == 0) False (K (.v (.int k (a.tmod b))) st.hp) else False
  | .and, .v (.int k a), .v (.int k' b) => bif decide (k = k') then K (.v (.int k (andI k a b))) st.hp else False
  | .or, .v (.int k a), .v (.int k' b) => bif decide (k = k') then K (.v (.int k (orI k a b))) st.hp else False
  | .shl, .v (.int k a), .v (.int _ b) => bcase (decide (b < 0)) False (K (.v (.int k (k.wrap (a * 2 ^ (min b.toNat k.bits))))) st.hp)
  | .shr, .v (.int k a), .v (.int _ b) => bcase (decide (b < 0)) False (K (.v (.int k (a.fdiv (2 ^ (min b.toNat k.bits))))) st.hp)
  | .eql, .v (.agg a), .v (.agg b) => match eqlX P t (.agg a) (.agg b) with | some r => K (.v (.bool r)) st.hp | none => False
  | .neq, .v (.agg a), .v (.agg b) => match eqlX P t (.agg a) (.agg b) with | some r => K (.v (.bool (!r))) st.hp | none => False
  | .add, .v (.string a), .v (.string b) => bcase (tooLong a b) False (K (.v (.string (a ++ b))) st.hp)
  | _, _, _ => gen P o st K
def sliceElem (P : Program) (t : TypeId) : Option Nat :=
  match P.underlying t with
  | some (.slice e) => match P.info? e with | some i => some i.size | none => none
  | _ => none
def arrElem (P : Program) (t : TypeId) : Option (Nat × Nat) :=
  match P.underlying t with
  | some (.array n e) => match P.info? e with | some i => some (n, i.size) | none => none
  | _ => none
def inB (j : Int) (n : Nat) : Bool := decide (0 ≤ j) && decide (j < n)
def isRow (hp : List Blk) (k : Nat) : Bool := match hp[k]? with | some b => b.row.isSome | none => false
def atX (j : Int) (F : Nat → Prop) : Nat → Prop
  | 0 => False
  | n + 1 => bcase (j == (n : Int)) (F n) (atX j F n)
theorem atX_run {j : Int} {F : Nat → Prop} : ∀ {n : Nat}, atX j F n → F j.toNat
  | 0, h => h.elim
  | n + 1, h => by
    unfold atX at h
    have hb := bcase_iff.1 h
    cases e : (j == (n : Int)) with
    | true =>
      have k := hb.1 e
      have : j = n := eq_of_beq e
      rw [this]
      exact k
    | false => exact atX_run (hb.2 e)
def indexX (P : Program) (hp : List Blk) (t : TypeId) (x i : AV) (K : AV → Prop) (other : Prop) : Prop :=
  match x, i with
  | .s k o n _, .v (.int _ j) => (match sliceElem P t with
    | some z => bcase (inB j n) (bif isRow hp k then (bif Nat.beq o 0 then K (.e k j.toNat z 0) else bif Nat.beq z 1 then K (.e k (o + j.toNat) 1 0) else False) else atX j (fun i => K (.p k (o + i * z))) n) False
    | none => False)
  | .rs k n, .v (.int _ j) | .os k n, .v (.int _ j) => (match sliceElem P t with | some z => bcase (inB j n) (K (.e k j.toNat z 0)) False | none => False)
  | .ps k o z' n, .v (.int _ j) => (match sliceElem P t with | some z => bif Nat.beq z' z then bcase (inB j n) (K (.e k (bif Nat.beq o 0 then j.toNat else o + j.toNat) z 0)) False else False | none => False)
  | .sl k o z' n, .v (.int _ j) => (match sliceElem P t with | some z => bif Nat.beq z' z then bcase (inB j n) (K (.fe k (bif Nat.beq o 0 then j.toNat else o + j.toNat) z 0)) False else False | none => False)
  | .p k o, .v (.int _ j) => (match arrElem P t with | some (n, z) => bcase (inB j n) (atX j (fun i => K (.p k (o + i * z))) n) False | none => False)
  | _, _ => other
def lenX (P : Program) (b : Builtin) (ts : Array TypeId) (args : List AV) : Option Int :=
  match b, args with
  | .len, [.s _ _ n _] | .len, [.rs _ n] | .len, [.os _ n] | .len, [.ps _ _ _ n] | .len, [.sl _ _ _ n] => (match ts.toList with | t :: _ => (match P.underlying t with | some (.slice _) => some n | _ => none) | [] => none)
  | _, _ => none
def buildX (P : Program) (t : TypeId) (len : Nat) (parts : List (Nat × Value)) : Option (TypeId × Array Value) :=
  match P.underlying t with
  | some (.slice e) =>
    match P.info? e with
    | some ie =>
      match ie.zero with
      | some z => bif Nat.beq len 0 && parts.isEmpty then some (e, #[]) else bif decide (len * ie.size > 2 ^ 24) || decide (len * ie.size = 0) then none else
        match Instr.fill (fun i => some (i * ie.size, ie.size)) ((Array.range (len * ie.size)).map (z.cells[· % z.cells.size]!)) parts with
        | some cells => some (e, cells)
        | none => none
      | none => none
    | none => none
  | _ => none
def partsX (P : Program) (t : TypeId) (len : Nat) (parts : Array (Nat × Operand)) (tm : List AV) : Option (TypeId × Array Value) :=
  bif parts.toList.all (fun q => isV (ev tm q.2)) then buildX P t len (parts.toList.map fun q => (q.1, evV tm q.2)) else none
/-! Rows that grow. -/
def enc1 : Value → Option ET
  | .int k _ => some (.int k)
  | .string _ => some .str
  | .bool _ => some .bool
  | _ => none
def encOf : List Value → Option ET
  | [] => none
  | [v] => enc1 v
  | v :: l => match enc1 v, encOf l with | some a, some b => some (.pair a b) | _, _ => none
def decs {α : Type} (E : Enc α) : Nat → List Value → Option (List α)
  | 0, [] => some []
  | 0, _ :: _ => none
  | m + 1, l => match E.dec (l.take E.z), decs E m (l.drop E.z) with | some x, some r => some (x :: r) | _, _ => none
theorem decs_back {α : Type} {E : Enc α} : ∀ {m : Nat} {l : List Value} {xs : List α}, decs E m l = some xs → xs.flatMap E.enc = l ∧ xs.length = m
  | 0, [], xs, h => by cases h; exact ⟨rfl, rfl⟩
  | 0, _ :: _, xs, h => by cases h
  | m + 1, l, xs, h => by
    unfold decs at h
    split at h
    · rename_i x r hx hr
      cases h
      obtain ⟨h1, h2⟩ := decs_back hr
      exact ⟨by rw [List.flatMap_cons, E.back _ _ hx, h1, List.take_append_drop], by rw [List.length_cons, h2]⟩
    · cases h
theorem one_vals {α : Type} {E : Enc α} {xs : List α} {v : Value} (h : v ∈ xs.flatMap E.enc) : v.oneCell' = true := by
  obtain ⟨x, _, hx⟩ := List.mem_flatMap.1 h
  exact E.one x v hx
def elemOf (P : Program) (t : TypeId) : Option (TypeId × TypeInfo × Value) :=
  match P.underlying t with
  | some (.slice e) => match P.info? e with | some i => (match i.zero with | some z => some (e, i, z) | none => none) | none => none
  | _ => none
def capOk (n b : Nat) : Bool := Nat.ble (n * b) 140737488355328 && Nat.ble n maxLen
theorem flat_get {α : Type} {E : Enc α} {f : Nat} (hf : f < E.z) : ∀ {xs : List α} {j : Nat}, j < xs.length → (xs.flatMap E.enc)[j * E.z + f]? = (E.enc (xs.getD j E.d))[f]?
  | [], _, h => by simp at h
  | x :: xs, 0, _ => by
    rw [List.flatMap_cons, List.getElem?_append_left (by rw [E.len]; omega)]
    simp
  | x :: xs, j + 1, h => by
    have hj : j < xs.length := by simpa using h
    rw [List.flatMap_cons, List.getElem?_append_right (by rw [E.len, Nat.add_mul]; omega), E.len, show (j + 1) * E.z + f - E.z = j * E.z + f by rw [Nat.add_mul]; omega, flat_get hf hj]
    simp
theorem Rel.ecell {H : Nat → Option Blk} (h : Rel B w0 ρ H w) {k n : Nat} {b : Blk} {r : Row} (hk : ρ k = some n) (hb : H k = some b) (ho : b.own = some true) (hw : b.row = some r) {j f : Nat} (hj : j < r.xs.length) (hf : f < r.E.z) :
    w.cell? ⟨n, j * r.E.z + f, none⟩ = some ((r.E.enc (r.xs.getD j r.E.d)).getD f undef) ∧ w.frozen? ⟨n, j * r.E.z + f, none⟩ = false := by
  have hl : b.live := ⟨by rw [ho]; simp, fun r' e => by rw [hw] at e; cases e; exact .inr (fun q => by rw [q] at hj; simp at hj)⟩
  obtain ⟨_, cs, hL, h2⟩ := h.blk k n b hk hb hl
  have h1 := hL.own ho
  unfold Blk.fit at h2
  simp only [hw, ho] at h2
  obtain ⟨cap, _, q1, _, q3, q4⟩ := h2
  have hlt : j * r.E.z + f < r.xs.length * r.E.z := by
    have : (j + 1) * r.E.z ≤ r.xs.length * r.E.z := Nat.mul_le_mul_right _ hj
    rw [Nat.add_mul] at this
    omega
  have e1 : cs[j * r.E.z + f]? = (r.E.enc (r.xs.getD j r.E.d))[f]? := by
    rw [← Array.getElem?_toList, ← flat_get (E := r.E) hf hj]
    have := congrArg (fun l => l[j * r.E.z + f]?) q4
    simp only [List.getElem?_take, if_pos hlt] at this
    exact this
  have hlen : f < (r.E.enc (r.xs.getD j r.E.d)).length := by rw [r.E.len]; exact hf
  constructor
  · unfold World.cell?
    simp only [h1]
    rw [e1]
    have q : ∀ (l : List Value), f < l.length → l[f]? = some (l.getD f undef) := fun l hl => by simp [List.getD, hl]
    exact q _ hlen
  · unfold World.frozen?
    simp [h1]
def rowLoad (P : Program) (r : Row) (t : TypeId) (f : Nat) (x : r.t.ty) : Option AV :=
  match P.underlying t with
  | some d =>
    bif isAggD d then
      match P.info? t with
      | some i => bif Nat.ble (f + i.size) r.E.z then some (.v (.agg (((r.E.enc x).drop f).take i.size).toArray)) else none
      | none => none
    else bif Nat.blt f r.E.z then some (.v ((r.E.enc x).getD f undef)) else none
  | none => none
def loadE (P : Program) (b : Blk) (t : TypeId) (j z f : Nat) (K : AV → Prop) : Prop :=
  match b.own, b.row with
  | some true, some r => bif Nat.beq r.E.z z then (match rowLoad P r t f (r.xs.getD j r.E.d) with | some a => bcase (Nat.blt j r.xs.length) (K a) False | none => False) else False
  | _, _ => False
theorem loadE_run {b : Blk} {t : TypeId} {j z f : Nat} {K : AV → Prop} (hl : loadE P b t j z f K) :
    ∃ a, K a ∧ ∀ {w : World} {ρ : Nat → Option Nat} {H : Nat → Option Blk} {k n : Nat}, Rel B w0 ρ H w → ρ k = some n → H k = some b → ∃ v, (loadVar t ⟨n, j * z + f, none⟩).run P w = .ok v w ∧ a.R ρ v := by
  unfold loadE at hl
  split at hl
  · rename_i ob r ho hw
    cases hz : Nat.beq r.E.z z with
    | false => simp [hz] at hl
    | true =>
      simp only [hz, cond_true] at hl
      have hz := Nat.eq_of_beq_eq_true hz
      subst hz
      split at hl
      · rename_i a ha
        cases hj : Nat.blt j r.xs.length with
        | false => simp [hj, bcase] at hl
        | true =>
          rw [hj] at hl
          refine ⟨a, hl, fun {w ρ H k n} h hk hb => ?_⟩
          have hj : j < r.xs.length := Nat.le_of_ble_eq_true hj
          have hc : ∀ g, g < r.E.z → w.cell? ⟨n, j * r.E.z + g, none⟩ = some ((r.E.enc (r.xs.getD j r.E.d)).getD g undef) := fun g hg => (h.ecell hk hb ho hw hj hg).1
          unfold rowLoad at ha
          cases hu : P.underlying t with
          | none => simp [hu] at ha
          | some d =>
            simp only [hu] at ha
            unfold loadVar
            simp only [Sem.run_bind, run_isAggD hu, Result.andThen_ok]
            cases hd : isAggD d with
            | true =>
              simp only [hd, cond_true] at ha
              cases hi : P.info? t with
              | none => simp [hi] at ha
              | some i =>
                simp only [hi] at ha
                cases hs : Nat.ble (f + i.size) r.E.z with
                | false => simp [hs] at ha
                | true =>
                  simp only [hs, cond_true, Option.some.injEq] at ha
                  subst ha
                  have hs' := Nat.le_of_ble_eq_true hs
                  have hlen : (((r.E.enc (r.xs.getD j r.E.d)).drop f).take i.size).length = i.size := by simp [r.E.len]; omega
                  have hz : (sizeOf t).run P w = .ok i.size w := by
                    unfold sizeOf
                    simp only [Sem.run_bind, run_typeInfo w hi, Result.andThen_ok]
                    rfl
                  have hcc := run_loadCells_list (P := P) w ⟨n, j * r.E.z + f, none⟩ (((r.E.enc (r.xs.getD j r.E.d)).drop f).take i.size) (fun q v hq => by
                    have hq' := (List.getElem?_eq_some_iff.1 hq).1
                    rw [hlen] at hq'
                    rw [addr_add, Nat.add_assoc, hc (f + q) (by omega)]
                    rw [List.getElem?_take, if_pos hq', List.getElem?_drop] at hq
                    have q2 : ∀ (l : List Value), l[f + q]? = some v → l.getD (f + q) undef = v := fun l hl => by simp [List.getD, hl]
                    rw [q2 _ hq])
                  rw [hlen] at hcc
                  simp only [if_true, Sem.run_bind, hz, Result.andThen_ok, hcc]
                  exact ⟨_, rfl, rfl⟩
            | false =>
              simp only [hd, cond_false] at ha
              cases hs : Nat.blt f r.E.z with
              | false => simp [hs] at ha
              | true =>
                simp only [hs, cond_true, Option.some.injEq] at ha
                subst ha
                refine ⟨_, ?_, rfl⟩
                simp only [Bool.false_eq_true, if_false]
                rw [run_load, hc f (Nat.le_of_ble_eq_true hs)]
      · exact hl.elim
  · exact hl.elim
theorem flat_set {α : Type} {E : Enc α} {y : α} {l : List Value} {f : Nat} (hf : f + l.length ≤ E.z) : ∀ {xs : List α} {j : Nat}, j < xs.length →
    E.enc y = (E.enc (xs.getD j E.d)).take f ++ l ++ (E.enc (xs.getD j E.d)).drop (f + l.length) →
    (xs.flatMap E.enc).take (j * E.z + f) ++ l ++ (xs.flatMap E.enc).drop (j * E.z + f + l.length) = (xs.set j y).flatMap E.enc
  | [], _, h, _ => by simp at h
  | x :: xs, 0, _, e => by
    have e : E.enc y = (E.enc x).take f ++ l ++ (E.enc x).drop (f + l.length) := e
    rw [List.flatMap_cons, List.set_cons_zero, List.flatMap_cons, e, Nat.zero_mul, Nat.zero_add]
    rw [List.take_append_of_le_length (by rw [E.len]; omega), List.drop_append_of_le_length (by rw [E.len]; omega)]
    simp only [List.append_assoc]
  | x :: xs, j + 1, h, e => by
    have hj : j < xs.length := by simpa using h
    have e : E.enc y = (E.enc (xs.getD j E.d)).take f ++ l ++ (E.enc (xs.getD j E.d)).drop (f + l.length) := by simpa using e
    have ih := flat_set hf hj e
    rw [List.flatMap_cons, List.set_cons_succ, List.flatMap_cons, ← ih]
    have e1 : (j + 1) * E.z + f = (E.enc x).length + (j * E.z + f) := by rw [E.len, Nat.add_mul]; omega
    rw [e1, List.take_length_add_append, Nat.add_assoc, List.drop_length_add_append]
    simp only [List.append_assoc]
theorem Rel.reset {H : Nat → Option Blk} (h : Rel B w0 ρ H w) {k n : Nat} {b b' : Blk} (hk : ρ k = some n) (hb : H k = some b) (hl : b.live) (ho : b.own = some true) (ho' : b'.own = some true) (hT : b'.T = b.T)
    {cs : Array Value} (hf : b'.fit ρ k cs) : Rel B w0 ρ (upd H k b') (w.setRow n cs) := by
  obtain ⟨h0, old, hL, _⟩ := h.blk k n b hk hb hl
  have h1 := hL.own ho
  have h0' : B ≤ n := h0 ho
  have hsz : (w.setRow n cs).heap.size = w.heap.size := by simp [World.setRow]
  have old' : ∀ (i : Nat) (x : Blk), upd H k b' i = some x → x.live → ∃ x', H i = some x' ∧ x'.live ∧ (x.own = some true → x'.own = some true) := fun i x hx hlx => by
    unfold upd at hx
    by_cases q : i = k
    · subst q; exact ⟨b, hb, hl, fun _ => ho⟩
    · rw [if_neg q] at hx; exact ⟨x, hx, hlx, id⟩
  refine ⟨⟨h.below.os, h.below.tape, h.below.output, by rw [hsz]; exact h.below.size, fun i hi => ?_⟩, by rw [hsz]; exact h.base, fun i hi => ?_, fun i j m x y hi hj hx hy lx ly oy => ?_, fun i m x hi hx hlx => ?_, fun i x hx => ?_, h.keeps.trans ⟨by rw [hsz]; exact Nat.le_refl _, fun i o hi hc => by
    rw [setRow_other w n i cs (fun e => by subst e; rw [h1] at hi; cases hi; cases hc)]; exact hi⟩⟩
  · rw [setRow_other w n i cs (by omega)]
    exact h.below.block i hi
  · unfold upd at hi
    by_cases q : i = k
    · rw [if_pos q] at hi; cases hi
    · rw [if_neg q] at hi; exact h.dom i hi
  · obtain ⟨x', hx', lx', _⟩ := old' i x hx lx
    obtain ⟨y', hy', ly', oy'⟩ := old' j y hy ly
    exact h.inj i j m x' y' hi hj hx' hy' lx' ly' (oy' oy)
  · unfold upd at hx
    by_cases q : i = k
    · subst q
      rw [if_pos rfl] at hx
      cases hx
      rw [hk] at hi
      cases hi
      exact ⟨fun _ => h0', cs, .of (by rw [hT]; exact setRow_heap w n old cs _ _ h1), hf⟩
    · rw [if_neg q] at hx
      obtain ⟨g0, cs', ⟨T', fz, g1, g3⟩, g2⟩ := h.blk i m x hi hx hlx
      refine ⟨g0, cs', ⟨T', fz, ?_, g3⟩, g2⟩
      rw [setRow_other w n m cs (fun e => q (h.inj i k n x b (e ▸ hi) hk hx hb hlx hl ho))]
      exact g1
  · unfold upd at hx
    by_cases q : i = k
    · subst q; exact ⟨n, hk⟩
    · rw [if_neg q] at hx; exact h.lies i x hx
def storeE (P : Program) (b : Blk) (t : TypeId) (j z f : Nat) (a : AV) (K : Blk → Prop) : Prop :=
  match b.row, cellsOf a, P.info? t with
  | some r, some as, some i =>
    bif isMine b && (Nat.beq r.E.z z && (Nat.beq as.length i.size && Nat.ble (f + as.length) z)) then
      match vals as with
      | some l =>
        match r.E.dec ((r.E.enc (r.xs.getD j r.E.d)).take f ++ l ++ (r.E.enc (r.xs.getD j r.E.d)).drop (f + l.length)) with
        | some y => bcase (Nat.blt j r.xs.length) (K { b with row := some ⟨r.t, r.xs.set j y, r.held⟩ }) False
        | none => False
      | none => False
    else False
  | _, _, _ => False
theorem storeE_run {b : Blk} {t : TypeId} {j z f : Nat} {a : AV} {K : Blk → Prop} (hl : storeE P b t j z f a K) :
    ∃ b', K b' ∧ ∀ {w : World} {ρ : Nat → Option Nat} {H : Nat → Option Blk} {k n : Nat} {v : Value}, Rel B w0 ρ H w → ρ k = some n → H k = some b → a.R ρ v →
      ∃ w', (storeVar t ⟨n, j * z + f, none⟩ v).run P w = .ok () w' ∧ Rel B w0 ρ (upd H k b') w' := by
  unfold storeE at hl
  split at hl
  · rename_i r as i hw hc hi
    cases hs : (isMine b && (Nat.beq r.E.z z && (Nat.beq as.length i.size && Nat.ble (f + as.length) z))) with
    | false => simp [hs] at hl
    | true =>
      simp only [hs, cond_true] at hl
      simp only [Bool.and_eq_true] at hs
      obtain ⟨q1, q2, q3, q4⟩ := hs
      have q1 := isMine_iff q1
      have q2 := Nat.eq_of_beq_eq_true q2
      have q3 := Nat.eq_of_beq_eq_true q3
      have q4 := Nat.le_of_ble_eq_true q4
      subst q2
      split at hl
      · rename_i l hv
        split at hl
        · rename_i y hy
          cases hj : Nat.blt j r.xs.length with
          | false => simp [hj, bcase] at hl
          | true =>
            rw [hj] at hl
            refine ⟨_, hl, fun {w ρ H k n v} h hk hb hr => ?_⟩
            have hj : j < r.xs.length := Nat.le_of_ble_eq_true hj
            have hlv : b.live := ⟨by rw [q1]; simp, fun r' e => by rw [hw] at e; cases e; exact .inr (fun q => by rw [q] at hj; simp at hj)⟩
            obtain ⟨c1, c2⟩ := cellsOf_R hc hr
            obtain ⟨v1, v2⟩ := vals_some hv
            have hcl : v.cells.toList = l := by
              apply List.ext_getElem
              · simp [c1, v1]
              · intro p hp1 hp2
                have := c2 p (by simpa [c1] using hp1)
                rw [v2 p (by rw [← v1]; exact hp2)] at this
                have this : v.cells.getD p undef = l.getD p undef := this
                have hp1' : p < v.cells.size := by simpa using hp1
                simpa [Array.getD_eq_getD_getElem?, List.getD, hp1', hp2] using this
            have henc := r.E.back _ _ hy
            have hz : (sizeOf t).run P w = .ok i.size w := by
              unfold sizeOf
              simp only [Sem.run_bind, run_typeInfo w hi, Result.andThen_ok]
              rfl
            obtain ⟨_, cs, hL, h2⟩ := h.blk k n b hk hb hlv
            have h1 := hL.own q1
            unfold Blk.fit at h2
            simp only [hw, q1] at h2
            obtain ⟨cap, p0, p1, p2, p3, p4⟩ := h2
            have hjz : j * r.E.z + r.E.z ≤ r.xs.length * r.E.z := by
              have : (j + 1) * r.E.z ≤ r.xs.length * r.E.z := Nat.mul_le_mul_right _ hj
              rw [Nat.add_mul] at this
              omega
            have hxz : r.xs.length * r.E.z ≤ cs.size := by rw [p1]; exact Nat.mul_le_mul_right _ p3
            have one : ∀ u ∈ l, u.oneCell' = true := fun u hu => r.E.one y u (by rw [henc]; simp [hu])
            have hst := run_storeCells_at P n (j * r.E.z + f) b.T l 0 cs w h1 (by omega) one
            have hfit : ({ b with row := some ⟨r.t, r.xs.set j y, r.held⟩ } : Blk).fit ρ k (cs.toList.take (j * r.E.z + f) ++ l ++ cs.toList.drop (j * r.E.z + f + l.length)).toArray := by
              unfold Blk.fit
              simp only [q1]
              refine ⟨cap, p0, ?_, p2, by simpa using p3, ?_⟩
              · show _ = cap * r.E.z
                simp only [List.size_toArray, List.length_append, List.length_take, List.length_drop, Array.length_toList]
                omega
              · have hV : cs.toList = r.vals ++ cs.toList.drop (r.xs.length * r.E.z) := by rw [← p4, List.take_append_drop]
                have hVl : r.vals.length = r.xs.length * r.E.z := by rw [← p4, List.length_take, Array.length_toList]; omega
                have hfs := flat_set (E := r.E) (by omega) hj henc
                show (cs.toList.take (j * r.E.z + f) ++ l ++ cs.toList.drop (j * r.E.z + f + l.length)).take ((r.xs.set j y).length * r.E.z) = (r.xs.set j y).flatMap r.E.enc
                rw [← hfs, List.length_set]
                have e1 : cs.toList.take (j * r.E.z + f) = r.vals.take (j * r.E.z + f) := by rw [hV, List.take_append_of_le_length (by omega)]
                have e2 : cs.toList.drop (j * r.E.z + f + l.length) = r.vals.drop (j * r.E.z + f + l.length) ++ cs.toList.drop (r.xs.length * r.E.z) := by
                  conv => lhs; rw [hV]
                  rw [List.drop_append_of_le_length (by omega)]
                rw [e1, e2, ← List.append_assoc]
                rw [List.take_append_of_le_length (by simp only [List.length_append, List.length_take, List.length_drop]; omega)]
                rw [List.take_of_length_le (by simp only [List.length_append, List.length_take, List.length_drop]; omega)]
                rfl
            refine ⟨_, ?_, h.reset (b' := { b with row := some ⟨r.t, r.xs.set j y, r.held⟩ }) hk hb hlv q1 q1 rfl hfit⟩
            unfold storeVar
            simp only [Sem.run_bind, hz, Result.andThen_ok]
            rw [if_neg (by rw [c1, q3]; simp)]
            rw [hcl]
            exact hst
        · exact hl.elim
      · exact hl.elim
  · exact hl.elim
def isApp : Builtin → Bool
  | .append => true
  | _ => false
theorem hpF_new2 (hp : List Blk) (x y : Blk) : hpF (hp ++ [x, y]) = upd (upd (hpF hp) (hp.length + 1) y) hp.length x := by
  rw [show hp ++ [x, y] = (hp ++ [x]) ++ [y] from by simp, hpF_new, hpF_new]
  funext j
  unfold upd
  simp only [List.length_append, List.length_singleton]
  by_cases h1 : j = hp.length + 1 <;> by_cases h2 : j = hp.length <;> simp [h1, h2]
theorem gen_sound {o : Oper} {st : AS} {a : Act} {K : AV → List Blk → Prop} {next : Act → World → Prop} {Q : Exit → Act → World → Prop}
    (hs : ∀ cs b, o.op ≠ .select cs b) (hR : RT ρ st.tm a.tmps) (h : gen P o st K)
    (hk : ∀ v, K (.v v) st.hp → next (a.put o.dst v) w) : o.wp P a w next Q := by
  unfold gen at h
  cases hb : o.op.operands.toList.all (fun x => isV (ev st.tm x)) with
  | false => simp [hb] at h
  | true =>
    simp only [hb, cond_true] at h
    have hall := List.all_eq_true.1 hb
    have hev : execOp a.eval o = execOp (evV st.tm) o := execOp_congr o hs fun x hx => evV_eq hR (hall x (by simpa using hx))
    cases hp : pureRun P (execOp (evV st.tm) o) with
    | none => simp [hp] at h
    | some n =>
      cases n <;> simp only [hp] at h
      case value v =>
        unfold Oper.wp
        rw [hev, pureRun_run hp]
        exact hk v h
theorem gen_R {o : Oper} {st : AS} {a : Act} {K : AV → List Blk → Prop} {next : Act → World → Prop} {Q : Exit → Act → World → Prop}
    (hs : ∀ cs b, o.op ≠ .select cs b) (hT : RT ρ st.tm a.tmps) (hR : Rel B w0 ρ (hpF st.hp) w) (h : gen P o st K)
    (hk : ∀ av hp' w' ρ' v, Ext ρ ρ' → Rel B w0 ρ' (hpF hp') w' → av.R ρ' v → K av hp' → next (a.put o.dst v) w') : o.wp P a w next Q :=
  gen_sound hs hT h fun v hv => hk (.v v) _ _ ρ v (Ext.refl ρ) hR rfl hv
theorem RL.length : ∀ {as : List AV} {vs : List Value}, RL ρ as vs → as.length = vs.length
  | [], [], _ => rfl
  | _ :: as, _ :: vs, h => by simp [RL.length h.2]
  | [], _ :: _, h => h.elim
  | _ :: _, [], h => h.elim
theorem RL.get : ∀ {as : List AV} {vs : List Value}, RL ρ as vs → ∀ i, (lget as i).R ρ (vs.getD i undef)
  | [], [], _, i => by show _ = _; simp
  | _ :: as, _ :: vs, h, 0 => by simpa [lget] using h.1
  | _ :: as, _ :: vs, h, i + 1 => by simpa [lget] using RL.get h.2 i
  | [], _ :: _, h, _ => h.elim
  | _ :: _, [], h, _ => h.elim
theorem RL.append : ∀ {as bs : List AV} {vs us : List Value}, RL ρ as vs → RL ρ bs us → RL ρ (as ++ bs) (vs ++ us)
  | [], _, [], _, _, k => k
  | _ :: as, _, _ :: vs, _, h, k => ⟨h.1, RL.append h.2 k⟩
  | [], _, _ :: _, _, h, _ => h.elim
  | _ :: _, _, [], _, h, _ => h.elim
theorem RL.vals : ∀ (l : List Value), RL ρ (l.map .v) l
  | [] => trivial
  | _ :: l => ⟨rfl, RL.vals l⟩
theorem RL.evs {tm : List AV} {a : Act} (h : RT ρ tm a.tmps) : ∀ (l : List Operand), RL ρ (l.map (ev tm)) (l.map a.eval)
  | [] => trivial
  | x :: l => ⟨ev_R h x, RL.evs h l⟩
theorem RL.ptrs : ∀ {l : List (Nat × Nat)} {r : List Value}, Abs.ptrs ρ l = some r → RL ρ (l.map fun q => .p q.1 q.2) r
  | [], r, h => by simp [Abs.ptrs] at h; subst h; trivial
  | (k, o) :: l, r, h => by
    simp only [Abs.ptrs] at h
    cases h1 : ρ k with
    | none => simp [h1] at h
    | some b =>
      cases h2 : Abs.ptrs ρ l with
      | none => simp [h1, h2] at h
      | some r' =>
        simp [h1, h2] at h
        subst h
        exact ⟨⟨b, h1, rfl⟩, RL.ptrs h2⟩
theorem vals_R : ∀ {as : List AV} {l vs : List Value}, vals as = some l → RL ρ as vs → vs = l
  | [], l, [], h, _ => by simp [vals] at h; simp [h]
  | [], l, _ :: _, _, hf => hf.elim
  | _ :: _, l, [], _, hf => hf.elim
  | a :: as, l, v :: vs, h, hf => by
    cases a with
    | v x =>
      simp only [vals] at h
      cases e : vals as with
      | none => simp [e] at h
      | some r =>
        simp [e] at h
        subst h
        rw [vals_R e hf.2, show v = x from hf.1]
    | _ => simp [vals] at h
theorem ptrsOf_R : ∀ {as : List AV} {l : List (Nat × Nat)} {vs : List Value}, ptrsOf as = some l → RL ρ as vs → Abs.ptrs ρ l = some vs
  | [], l, [], h, _ => by simp [ptrsOf] at h; subst h; rfl
  | [], l, _ :: _, _, hf => hf.elim
  | _ :: _, l, [], _, hf => hf.elim
  | a :: as, l, v :: vs, h, hf => by
    cases a with
    | p k o =>
      simp only [ptrsOf] at h
      cases e : ptrsOf as with
      | none => simp [e] at h
      | some r =>
        simp [e] at h
        subst h
        obtain ⟨⟨n, hn, rfl⟩, h2⟩ := hf
        simp [Abs.ptrs, hn, ptrsOf_R e h2]
    | _ => simp [ptrsOf] at h
def Callable (P : Program) (g : FuncId) : Prop := ∃ fn, P.funcs[g]? = some fn ∧ (fn.name == "runtime.NumGoroutine") = false ∧ fn.body.isSome = true
theorem run_callFunc' {g : FuncId} (h : Callable P g) (args : Array Value) (w : World) : (callFunc g args).run P w = .ok (.enter g args) w := by
  obtain ⟨fn, h1, h2, h3⟩ := h
  unfold callFunc
  have h3' : fn.body.isNone = false := by cases hb : fn.body <;> simp_all
  simp only [Sem.run_bind, show (program : Sem Program).run P w = .ok P w from rfl, Result.andThen_ok, h1, h2, h3', Bool.false_eq_true, if_false]
  rfl
theorem run_call {o : Oper} {c : Call} {f : Operand} {a : Act} {g : FuncId} {first caps : Array Value} (ho : o.op = .call c) (hc : c.callee = .value f)
    (hf : a.eval f = .func (.func g) first caps) (hg : Callable P g) (w : World) :
    (execOp a.eval o).run P w = .ok (.enter g (first ++ c.args.map a.eval ++ caps)) w := by
  unfold execOp
  simp only [ho]
  unfold resolve
  simp only [hc, Sem.run_bind, hf, Deferred.ofValue]
  show (invoke _ _).run P w = _
  unfold invoke
  exact run_callFunc' hg _ w
theorem run_call_ext {o : Oper} {c : Call} {f : Operand} {a : Act} {g : FuncId} {first caps : Array Value} {v : Value} {w : World} (ho : o.op = .call c) (hc : c.callee = .value f)
    (hf : a.eval f = .func (.func g) first caps) (hg : (callFunc g (first ++ c.args.map a.eval ++ caps)).run P w = .ok (.value v) w) :
    (execOp a.eval o).run P w = .ok (.value v) w := by
  unfold execOp
  simp only [ho]
  unfold resolve
  simp only [hc, Sem.run_bind, hf, Deferred.ofValue]
  show (invoke _ _).run P w = _
  unfold invoke
  exact hg
def InlSound (P : Program) (B : Nat) (w0 : World) (inl : Inl) : Prop :=
  ∀ g args hp K w ρ vs, inl g args hp K → Rel B w0 ρ (hpF hp) w → RL ρ args vs → Callable P g ∧
    Calls P g vs.toArray w fun e w' => ∃ ρ' hp' av v, e = .returned v ∧ Ext ρ ρ' ∧ Rel B w0 ρ' (hpF hp') w' ∧ AV.R ρ' av v ∧ K av hp'
theorem upon_call {o : Oper} {a : Act} {next : Act → World → Prop} {Q : Exit → Act → World → Prop} {g : FuncId} {vs : Array Value} {K : AV → List Blk → Prop}
    (hrun : (execOp a.eval o).run P w = .ok (.enter g vs) w)
    (h : Calls P g vs w fun e w' => ∃ ρ' hp' av v, e = .returned v ∧ Ext ρ ρ' ∧ Rel B w0 ρ' (hpF hp') w' ∧ AV.R ρ' av v ∧ K av hp')
    (hk : ∀ av hp' w' ρ' v, Ext ρ ρ' → Rel B w0 ρ' (hpF hp') w' → av.R ρ' v → K av hp' → next (a.put o.dst v) w') : o.wp P a w next Q := by
  unfold Oper.wp
  rw [hrun, Oper.upon_enter]
  refine h.mono ?_
  rintro e w' ⟨ρ', hp', av, v, rfl, h1, h2, h3, h4⟩
  exact hk av hp' w' ρ' v h1 h2 h3 h4
end
section
variable {P : Program} {B : Nat} {w0 w : World} {ρ : Nat → Option Nat} {hp : List Blk}
theorem R_v (x : Value) : (AV.v x).R ρ x := rfl
theorem R_p {k n : Nat} (o : Nat) (h : ρ k = some n) : (AV.p k o).R ρ (.pointer (some ⟨n, o, none⟩)) := ⟨n, h, rfl⟩
theorem R_s {k n : Nat} (o m c : Nat) (h : ρ k = some n) : (AV.s k o m c).R ρ (.slice (some ⟨n, o, none⟩) m c) := ⟨n, h, rfl⟩
theorem R_e {k n : Nat} (j z f : Nat) (h : ρ k = some n) : (AV.e k j z f).R ρ (.pointer (some ⟨n, j * z + f, none⟩)) := ⟨n, h, rfl⟩
theorem R_c {f : FuncId} {l : List (Nat × Nat)} {r : List Value} (h : ptrs ρ l = some r) : (AV.c f l).R ρ (.func (.func f) #[] r.toArray) := ⟨r, h, rfl⟩
theorem run_sure (n i : Nat) (w : World) : (Instr.sureAddr (.pointer (some ⟨n, i, none⟩))).run P w = .ok ⟨n, i, none⟩ w := rfl
theorem upon_value' {o : Oper} {a : Act} {next : Act → World → Prop} {Q : Exit → Act → World → Prop} {v : Value} {w' : World}
    (hrun : (execOp a.eval o).run P w = .ok (.value v) w') (h : next (a.put o.dst v) w') : o.wp P a w next Q := by
  unfold Oper.wp
  rw [hrun]
  exact h
theorem indexX_at {t : TypeId} {z n : Nat} {kd : IntKind} {j : Int} {c m o : Nat} (hz : sliceElem P t = some z) (hin : inB j n = true) (w : World) :
    (Instr.indexAt t (.slice (some ⟨m, o * z, none⟩) n c) (.int kd j)).run P w = .ok (.pointer (some ⟨m, (o + j.toNat) * z + 0, none⟩)) w := by
  unfold inB at hin
  simp only [Bool.and_eq_true, decide_eq_true_eq] at hin
  unfold sliceElem at hz
  split at hz
  · rename_i e hu
    split at hz
    · rename_i inf hinf
      cases hz
      simp only [Instr.indexAt, asIntOf, Sem.run_bind, Sem.run_pure, Result.andThen_ok, run_underlying hu, sizeOf, run_typeInfo w hinf]
      simp only [hin, and_self, if_true, Sem.run_bind, Sem.run_pure, Result.andThen_ok, run_typeInfo w hinf, addr_add, Nat.add_zero, Nat.add_mul]
    · cases hz
  · cases hz
theorem indexX_raw {t : TypeId} {z n : Nat} {kd : IntKind} {j : Int} {c m O : Nat} (hz : sliceElem P t = some z) (hin : inB j n = true) (w : World) :
    (Instr.indexAt t (.slice (some ⟨m, O, none⟩) n c) (.int kd j)).run P w = .ok (.pointer (some ⟨m, O + j.toNat * z, none⟩)) w := by
  unfold inB at hin
  simp only [Bool.and_eq_true, decide_eq_true_eq] at hin
  unfold sliceElem at hz
  split at hz
  · rename_i e hu
    split at hz
    · rename_i inf hinf
      cases hz
      simp only [Instr.indexAt, asIntOf, Sem.run_bind, Sem.run_pure, Result.andThen_ok, run_underlying hu, sizeOf, run_typeInfo w hinf]
      simp only [hin, and_self, if_true, Sem.run_bind, Sem.run_pure, Result.andThen_ok, run_typeInfo w hinf, addr_add]
    · cases hz
  · cases hz
theorem oif1 (o j : Nat) : (bif Nat.beq o 0 then j else o + j) = o + j := by
  cases h : Nat.beq o 0 with
  | true => have := Nat.eq_of_beq_eq_true h; subst this; simp
  | false => rfl
theorem indexX_row {t : TypeId} {z k n : Nat} {kd : IntKind} {j : Int} {c m : Nat} (hz : sliceElem P t = some z) (hin : inB j n = true) (w : World) :
    (Instr.indexAt t (.slice (some ⟨m, 0, none⟩) n c) (.int kd j)).run P w = .ok (.pointer (some ⟨m, j.toNat * z + 0, none⟩)) w := by
  unfold inB at hin
  simp only [Bool.and_eq_true, decide_eq_true_eq] at hin
  unfold sliceElem at hz
  split at hz
  · rename_i e hu
    split at hz
    · rename_i inf hinf
      cases hz
      simp only [Instr.indexAt, asIntOf, Sem.run_bind, Sem.run_pure, Result.andThen_ok, run_underlying hu, sizeOf, run_typeInfo w hinf]
      simp only [hin, and_self, if_true, Sem.run_bind, Sem.run_pure, Result.andThen_ok, run_typeInfo w hinf, addr_add, Nat.zero_add, Nat.add_zero]
    · cases hz
  · cases hz
theorem indexX_val {hp : List Blk} {t : TypeId} {x i : AV} {K : AV → Prop} {other : Prop} (h : indexX P hp t x i K other) :
    other ∨ ∃ α, K α ∧ ∀ (ρ : Nat → Option Nat) (a b : Value), x.R ρ a → i.R ρ b → ∃ v, α.R ρ v ∧ ∀ w, (Instr.indexAt t a b).run P w = .ok v w := by
  unfold indexX at h
  split at h
  · rename_i k o n c kd j
    split at h
    · rename_i z hz
      have hb := (bcase_iff.1 h)
      have hin : inB j n = true := by
        cases e : inB j n with
        | true => rfl
        | false => exact (hb.2 e).elim
      have key : ∀ (ρ : Nat → Option Nat) (a b : Value), (AV.s k o n c).R ρ a → (AV.v (.int kd j)).R ρ b → ∃ m, ρ k = some m ∧ ∀ w, (Instr.indexAt t a b).run P w = .ok (.pointer (some ⟨m, o + j.toNat * z, none⟩)) w := by
        rintro ρ a b ⟨m, hm, rfl⟩ hi
        have hi : b = .int kd j := hi
        subst hi
        refine ⟨m, hm, fun w => ?_⟩
        unfold inB at hin
        simp only [Bool.and_eq_true, decide_eq_true_eq] at hin
        unfold sliceElem at hz
        split at hz
        · rename_i e hu
          split at hz
          · rename_i inf hinf
            cases hz
            simp only [Instr.indexAt, asIntOf, Sem.run_bind, Sem.run_pure, Result.andThen_ok, run_underlying hu, sizeOf, run_typeInfo w hinf]
            simp only [hin, and_self, if_true, Sem.run_bind, Sem.run_pure, Result.andThen_ok, run_typeInfo w hinf, addr_add]
          · cases hz
        · cases hz
      have h' := hb.1 hin
      refine .inr ?_
      cases hr : isRow hp k with
      | false =>
        simp only [hr, cond_false] at h'
        refine ⟨_, atX_run h', fun ρ a b hx hi => ?_⟩
        obtain ⟨m, hm, hrun⟩ := key ρ a b hx hi
        exact ⟨_, ⟨m, hm, rfl⟩, hrun⟩
      | true =>
        simp only [hr, cond_true] at h'
        cases ho : Nat.beq o 0 with
        | true =>
          simp only [ho, cond_true] at h'
          have := Nat.eq_of_beq_eq_true ho
          subst this
          refine ⟨_, h', fun ρ a b hx hi => ?_⟩
          obtain ⟨m, hm, hrun⟩ := key ρ a b hx hi
          exact ⟨_, ⟨m, hm, rfl⟩, fun w => by rw [hrun w]; simp⟩
        | false =>
          simp only [ho, cond_false] at h'
          cases h1 : Nat.beq z 1 with
          | false => simp [h1] at h'
          | true =>
            simp only [h1, cond_true] at h'
            have := Nat.eq_of_beq_eq_true h1
            subst this
            refine ⟨_, h', fun ρ a b hx hi => ?_⟩
            obtain ⟨m, hm, hrun⟩ := key ρ a b hx hi
            exact ⟨_, ⟨m, hm, rfl⟩, fun w => by rw [hrun w]; simp⟩
    · exact h.elim
  · rename_i k n kd j
    split at h
    · rename_i z hz
      have hb := (bcase_iff.1 h)
      have hin : inB j n = true := by
        cases e : inB j n with
        | true => rfl
        | false => exact (hb.2 e).elim
      refine .inr ⟨_, hb.1 hin, ?_⟩
      rintro ρ a b ⟨m, c, hm, hc, rfl⟩ hi
      have hi : b = .int kd j := hi
      subst hi
      exact ⟨_, ⟨m, hm, rfl⟩, fun w => indexX_row (k := k) hz hin w⟩
    · exact h.elim
  · rename_i k n kd j
    split at h
    · rename_i z hz
      have hb := (bcase_iff.1 h)
      have hin : inB j n = true := by
        cases e : inB j n with
        | true => rfl
        | false => exact (hb.2 e).elim
      refine .inr ⟨_, hb.1 hin, ?_⟩
      rintro ρ a b ha hi
      have hi : b = .int kd j := hi
      subst hi
      have hn : n ≠ 0 := fun e => by subst e; unfold inB at hin; simp only [Bool.and_eq_true, decide_eq_true_eq] at hin; omega
      obtain ⟨m, c, hm, hc, rfl⟩ := ha.2 hn
      exact ⟨_, ⟨m, hm, rfl⟩, fun w => indexX_row (k := k) hz hin w⟩
    · exact h.elim
  · rename_i k o z' n kd j
    split at h
    · rename_i z hz
      cases hzz : Nat.beq z' z with
      | false => simp [hzz] at h
      | true =>
        simp only [hzz, cond_true] at h
        obtain rfl := Nat.eq_of_beq_eq_true hzz
        have hb := (bcase_iff.1 h)
        have hin : inB j n = true := by
          cases e : inB j n with
          | true => rfl
          | false => exact (hb.2 e).elim
        refine .inr ⟨_, hb.1 hin, ?_⟩
        rintro ρ a b ha hi
        have hi : b = .int kd j := hi
        subst hi
        have hn : n ≠ 0 := fun e => by subst e; unfold inB at hin; simp only [Bool.and_eq_true, decide_eq_true_eq] at hin; omega
        obtain ⟨m, c, hm, hc, rfl⟩ := ha.2 hn
        rw [oif1]
        exact ⟨_, ⟨m, hm, rfl⟩, fun w => indexX_at hz hin w⟩
    · exact h.elim
  · rename_i k o z' n kd j
    split at h
    · rename_i z hz
      cases hzz : Nat.beq z' z with
      | false => simp [hzz] at h
      | true =>
        simp only [hzz, cond_true] at h
        obtain rfl := Nat.eq_of_beq_eq_true hzz
        have hb := (bcase_iff.1 h)
        have hin : inB j n = true := by
          cases e : inB j n with
          | true => rfl
          | false => exact (hb.2 e).elim
        refine .inr ⟨_, hb.1 hin, ?_⟩
        rintro ρ a b ha hi
        have hi : b = .int kd j := hi
        subst hi
        have hn : n ≠ 0 := fun e => by subst e; unfold inB at hin; simp only [Bool.and_eq_true, decide_eq_true_eq] at hin; omega
        obtain ⟨m, c, off, hm, hc, rfl⟩ := ha.2 hn
        rw [oif1]
        exact ⟨_, ⟨m, off, hm, hc.1, rfl⟩, fun w => by rw [Nat.add_mul, Nat.add_zero, ← Nat.add_assoc]; exact indexX_raw hz hin w⟩
    · exact h.elim
  · rename_i k o kd j
    split at h
    · rename_i n z hz
      have hb := (bcase_iff.1 h)
      have hin : inB j n = true := by
        cases e : inB j n with
        | true => rfl
        | false => exact (hb.2 e).elim
      refine .inr ⟨_, atX_run (hb.1 hin), ?_⟩
      rintro ρ a b ⟨m, hm, rfl⟩ hi
      have hi : b = .int kd j := hi
      subst hi
      refine ⟨_, ⟨m, hm, rfl⟩, fun w => ?_⟩
      unfold inB at hin
      simp only [Bool.and_eq_true, decide_eq_true_eq] at hin
      unfold arrElem at hz
      split at hz
      · rename_i e hu
        split at hz
        · rename_i inf hinf
          cases hz
          simp only [Instr.indexAt, Instr.sureAddr, asIntOf, Sem.run_bind, Sem.run_pure, Result.andThen_ok, run_underlying hu, sizeOf, run_typeInfo w hinf]
          simp only [hin, and_self, if_true, Sem.run_bind, Sem.run_pure, Result.andThen_ok, run_typeInfo w hinf, addr_add]
        · cases hz
      · cases hz
    · exact h.elim
  · exact .inl h
theorem app_block {t e ty : TypeId} {i : TypeInfo} {z : Value} (ht : P.underlying t = some (.slice e)) (hi : P.info? e = some i) (hz : i.zero = some z)
    {v : Value} {n : Nat} {xs : List Value} (hown : w.ownsRow B e i.size v n xs) {a : Addr} {m c : Nat} {l : List Value} (hm : 0 < m) (hl : l.length = m * i.size) (hc : ∀ j u, l[j]? = some u → w.cell? (a.add j) = some u)
    (h1 : ∀ u ∈ l, u.oneCell' = true) (h63 : n + m ≤ maxLen) (hbytes : (n + m) * i.bytes ≤ 140737488355328) {v' : Value} {w' : World} (hrun : (Builtin.append_ #[t, t] ty #[v, .slice (some a) m c]).run P w = .ok v' w')
    {g : Nat} (hg' : v'.ownBlock = some g) : v.ownBlock = some g ∨ w.heap.size ≤ g := by
  have hsmall : n + m ≤ 9223372036854775807 := by simp only [maxLen] at h63; omega
  rcases hown.2 with ⟨rfl, rfl⟩ | ⟨g0, cap, cur, rfl, hbg, hg, hnc, hcm, hcs, htake⟩
  · have hr := run_append_nil (P := P) w t ty e i z ht hi hz a m c l hl hc (by omega) (by omega) (by have hb := hbytes; simp only [Nat.zero_add] at hb; omega)
    rw [hr] at hrun
    cases hrun
    cases hg'
    exact .inr (Nat.le_refl _)
  · by_cases hroom : n + m ≤ cap
    · have hfit : n * i.size + l.length ≤ cur.size := by rw [hl, hcs, ← Nat.add_mul]; exact Nat.mul_le_mul_right _ hroom
      have hr := run_append_room (P := P) w t ty e i ht hi g0 n cap cur hg a m c l hl hc h1 hroom hfit
      rw [hr] at hrun
      cases hrun
      exact .inl hg'
    · have holds : ∀ j u, xs[j]? = some u → w.cell? ((⟨g0, 0, none⟩ : Addr).add j) = some u := hown.cells (g := g0) rfl
      have hr := run_append_grow (P := P) w t ty e i z ht hi hz ⟨g0, 0, none⟩ n cap xs hown.1 holds a m c l hl hc (by omega) (by omega) (growslice_fits (by omega) hbytes)
      rw [hr] at hrun
      cases hrun
      cases hg'
      exact .inr (Nat.le_refl _)
theorem app_run {t e : TypeId} {i : TypeInfo} {z : Value} (he : elemOf P t = some (e, i, z)) (hsz : 0 < i.size) (hzs : z.cells.size = i.size) {hp : List Blk} (h : Rel B w0 ρ (hpF hp) w)
    {v : Value} {n : Nat} {xs : List Value} (hown : w.ownsRow B e i.size v n xs) (hB : ∀ g, v.ownBlock = some g → B ≤ g) (hfree : ∀ j g x, v.ownBlock = some g → ρ j = some g → hpF hp j = some x → ¬ x.live)
    {ad : Addr} {m c : Nat} {l : List Value} (hm : 0 < m) (hl : l.length = m * i.size) (hc : ∀ j u, l[j]? = some u → w.cell? (ad.add j) = some u)
    {r : Row} (hz : r.E.z = i.size) (hlen : r.xs.length = n + m) (hv : r.vals = xs ++ l) (hcap : capOk (n + m) i.bytes = true) (ty : TypeId) (cs : Array Bool) :
    ∃ w' ρ' v', Ext ρ ρ' ∧ Rel B w0 ρ' (hpF (hp ++ [⟨e, [], some true, some r⟩, deadB])) w' ∧ (AV.rs hp.length (n + m)).R ρ' v' ∧ (builtin .append #[t, t] ty cs #[v, .slice (some ad) m c]).run P w = .ok (.value v') w' := by
  unfold elemOf at he
  split at he
  · rename_i e' hu
    split at he
    · rename_i i' hi
      split at he
      · rename_i z' hz'
        cases he
        unfold capOk at hcap
        simp only [Bool.and_eq_true] at hcap
        have hb1 := Nat.le_of_ble_eq_true hcap.1
        have hb2 := Nat.le_of_ble_eq_true hcap.2
        have h1 : ∀ u ∈ l, u.oneCell' = true := fun u hu => by
          have : u ∈ r.vals := by rw [hv]; exact List.mem_append_right _ hu
          exact one_vals this
        obtain ⟨v', w', hrun, ho', hg, hnil⟩ := run_append_own (P := P) w B t ty e i z i.size i.bytes hu hi hz' rfl rfl hzs hsz v n xs hown ad m c l hl hc h1 hb2 hb1 h.base
        have hR' := h.grown hg hB (fun j g x q1 q2 q3 => hfree j g x q1 q2 q3) (fun j o q1 q2 => by
          rcases hown.2 with ⟨rfl, _⟩ | ⟨g0, cap, cur, rfl, _, hg0, _⟩
          · cases q1
          · have e : g0 = j := by simpa [Value.ownBlock] using q1
            subst e
            rw [hg0] at q2
            cases q2
            rfl)
        have hnn : v' ≠ .slice none 0 0 := fun q => by have := (hnil.1 q).2; omega
        have ho'' : w'.ownsRow B e r.E.z v' r.xs.length r.vals := by rw [hz, hlen, hv]; exact ho'
        have hfree' : ∀ j g x, v'.ownBlock = some g → ρ j = some g → hpF hp j = some x → ¬ x.live := fun j g x q1 q2 q3 q4 => by
          rcases app_block hu hi hz' hown hm hl hc h1 hb2 hb1 hrun q1 with q | q
          · exact hfree j g x q q2 q3 q4
          · have := h.lt q2 q3 q4
            omega
        have hx0 : r.xs ≠ [] := fun q => by rw [q] at hlen; simp at hlen; omega
        obtain ⟨ρ', h1', h2', h3'⟩ := hR'.addRow (k := hp.length) (hpF_none hp) (by simp [hpF]) (T := e) (r := r) hnn ho'' hfree'
        refine ⟨w', ρ', v', h1', by rw [hpF_new2]; exact h2', by rw [← hlen]; exact h3', ?_⟩
        unfold builtin
        simp only [Sem.run_bind, hrun, Result.andThen_ok]
        rfl
      · cases he
    · cases he
  · cases he
theorem capOk_1 {n b : Nat} {p : Prop} (h : bcase (capOk n b) p False) : capOk n b = true ∧ p := by
  cases e : capOk n b with
  | true => rw [e] at h; exact ⟨rfl, h⟩
  | false => rw [e] at h; exact h.elim
theorem lenX_run {b : Builtin} {ts : Array TypeId} {args : List AV} {vs : List Value} {n : Int} (h : lenX P b ts args = some n) (hr : RL ρ args vs) (type : TypeId) (cs : Array Bool) (w : World) :
    (builtin b ts type cs vs.toArray).run P w = .ok (.value (.int .i64 n)) w := by
  unfold lenX at h
  split at h
  · rename_i k o m c
    split at h
    · rename_i t l hts
      split at h
      · rename_i e hu
        cases h
        match vs, hr with
        | [v], hr =>
          obtain ⟨q, hq, rfl⟩ := hr.1
          have ht : ts[0]? = some t := by
            rw [← Array.getElem?_toList, hts]; rfl
          simp only [builtin, Builtin.len_, ht, Sem.run_bind]
          simp [run_underlying hu, goInt]
        | _ :: _ :: _, hr => exact hr.2.elim
        | [], hr => exact hr.elim
      · cases h
    · cases h
  · rename_i k m
    split at h
    · rename_i t l hts
      split at h
      · rename_i e hu
        cases h
        match vs, hr with
        | [v], hr =>
          obtain ⟨q, c, hq, hc, rfl⟩ := hr.1
          have ht : ts[0]? = some t := by
            rw [← Array.getElem?_toList, hts]; rfl
          simp only [builtin, Builtin.len_, ht, Sem.run_bind]
          simp [run_underlying hu, goInt]
        | _ :: _ :: _, hr => exact hr.2.elim
        | [], hr => exact hr.elim
      · cases h
    · cases h
  · rename_i k m
    split at h
    · rename_i t l hts
      split at h
      · rename_i e hu
        cases h
        match vs, hr with
        | [v], hr =>
          obtain ⟨ao, c, rfl⟩ : ∃ ao c, v = .slice ao m c := by
            by_cases h0 : m = 0
            · exact ⟨none, 0, by rw [hr.1.1 h0, h0]⟩
            · obtain ⟨q, c, _, _, e⟩ := hr.1.2 h0; exact ⟨_, c, e⟩
          have ht : ts[0]? = some t := by
            rw [← Array.getElem?_toList, hts]; rfl
          simp only [builtin, Builtin.len_, ht, Sem.run_bind]
          simp [run_underlying hu, goInt]
        | _ :: _ :: _, hr => exact hr.2.elim
        | [], hr => exact hr.elim
      · cases h
    · cases h
  · rename_i k o' z' m
    split at h
    · rename_i t l hts
      split at h
      · rename_i e hu
        cases h
        match vs, hr with
        | [v], hr =>
          obtain ⟨ao, c, rfl⟩ : ∃ ao c, v = .slice ao m c := by
            by_cases h0 : m = 0
            · obtain ⟨ao, c, e⟩ := hr.1.1 h0; exact ⟨ao, c, by rw [e, h0]⟩
            · obtain ⟨q, c, _, _, e⟩ := hr.1.2 h0; exact ⟨_, c, e⟩
          have ht : ts[0]? = some t := by
            rw [← Array.getElem?_toList, hts]; rfl
          simp only [builtin, Builtin.len_, ht, Sem.run_bind]
          simp [run_underlying hu, goInt]
        | _ :: _ :: _, hr => exact hr.2.elim
        | [], hr => exact hr.elim
      · cases h
    · cases h
  · rename_i k o' z' m
    split at h
    · rename_i t l hts
      split at h
      · rename_i e hu
        cases h
        match vs, hr with
        | [v], hr =>
          obtain ⟨ao, c, rfl⟩ : ∃ ao c, v = .slice ao m c := by
            by_cases h0 : m = 0
            · obtain ⟨ao, c, e⟩ := hr.1.1 h0; exact ⟨ao, c, by rw [e, h0]⟩
            · obtain ⟨q, c, off, _, _, e⟩ := hr.1.2 h0; exact ⟨_, c, e⟩
          have ht : ts[0]? = some t := by
            rw [← Array.getElem?_toList, hts]; rfl
          simp only [builtin, Builtin.len_, ht, Sem.run_bind]
          simp [run_underlying hu, goInt]
        | _ :: _ :: _, hr => exact hr.2.elim
        | [], hr => exact hr.elim
      · cases h
    · cases h
  · cases h
theorem run_builtin {o : Oper} {c : Call} {b : Builtin} {a : Act} (ho : o.op = .call c) (hc : c.callee = .builtin b) (w : World) :
    (execOp a.eval o).run P w = (builtin b c.argTypes o.type (c.args.map fun | .const _ => true | _ => false) (c.args.toList.map a.eval).toArray).run P w := by
  unfold execOp
  simp only [ho]
  unfold resolve
  simp only [hc, Sem.run_bind]
  show (invoke _ _).run P w = _
  unfold invoke
  have e : c.args.map a.eval = (c.args.toList.map a.eval).toArray := by apply Array.ext'; simp
  rw [e]
  rfl
theorem partsX_run {t : TypeId} {len : Nat} {parts : Array (Nat × Operand)} {tm : List AV} {e : TypeId} {cells : Array Value} {a : Act} (h : partsX P t len parts tm = some (e, cells))
    (he : ∀ q ∈ parts.toList, isV (ev tm q.2) = true → a.eval q.2 = evV tm q.2) (w : World) :
    (Instr.buildSlice t len (parts.map fun (i, x) => (i, a.eval x))).run P w = .ok (.slice (some ⟨w.heap.size, 0, none⟩) len len) (w.alloc (.cells cells e)) := by
  unfold partsX at h
  cases hb : parts.toList.all (fun q => isV (ev tm q.2)) with
  | false => simp [hb] at h
  | true =>
    simp only [hb, cond_true] at h
    have hall := List.all_eq_true.1 hb
    unfold buildX at h
    split at h
    · rename_i e' hu
      split at h
      · rename_i ie hie
        split at h
        · rename_i z hz
          cases he0 : (Nat.beq len 0 && (parts.toList.map fun q => (q.1, evV tm q.2)).isEmpty) with
          | true =>
            rw [he0] at h
            cases h
            simp only [Bool.and_eq_true] at he0
            obtain rfl := Nat.eq_of_beq_eq_true he0.1
            have hpe : parts = #[] := by
              have := he0.2
              cases parts with
              | mk l => cases l with
                | nil => rfl
                | cons => simp at this
            subst hpe
            simp [Instr.buildSlice, run_underlying hu, sizeOf, typeInfo, hie, Instr.fill, newRow, Array.range_zero']
          | false =>
          rw [he0] at h
          simp only [cond_false] at h
          cases hd : (decide (len * ie.size > 2 ^ 24) || decide (len * ie.size = 0)) with
          | true => rw [hd] at h; cases h
          | false =>
            rw [hd] at h
            simp only [cond_false] at h
            simp only [Bool.or_eq_false_iff, decide_eq_false_iff_not] at hd
            split at h
            · rename_i cs hf
              cases h
              refine run_buildSlice w t _ len _ _ ie z hu hie hz hd.1 hd.2 ?_
              have e2 : (parts.map fun (i, x) => (i, a.eval x)).toList = parts.toList.map fun q => (q.1, evV tm q.2) := by
                rw [Array.toList_map]
                exact List.map_congr_left fun q hq => by rw [← he q hq (hall q hq)]
              rw [e2]
              exact hf
            · cases h
        · cases h
      · cases h
    · cases h
/-! PARTS -/
/-! Values that are put together, and taken apart. -/
def RLA (ρ : Nat → Option Nat) (l : List AV) (cs : Array Value) : Prop := l.length = cs.size ∧ ∀ i, i < l.length → (lget l i).R0 ρ (cs.getD i undef)
theorem RLA.rl0 {l : List AV} {cs : Array Value} (h : RLA ρ l cs) : RL0 ρ l cs.toList :=
  RL0.of (by simpa using h.1) fun i hi => by simpa [List.getD, Array.getD_eq_getD_getElem?] using h.2 i hi
theorem cellsOf_R0 {a : AV} {l : List AV} {v : Value} (h : cellsOf a = some l) (hr : a.R ρ v) : RLA ρ l v.cells := by
  obtain ⟨h1, h2⟩ := cellsOf_R h hr
  refine ⟨h1.symm, fun i hi => ?_⟩
  have h3 := h2 i hi
  cases a with
  | v x =>
    simp [cellsOf] at h
    subst h
    rw [lget_map _ _ (by simpa using hi)] at h3 ⊢
    exact h3
  | ag q =>
    simp [cellsOf] at h
    subst h
    obtain ⟨vs, rfl, hq⟩ := hr
    have := hq.get i hi
    simpa [Value.cells, List.getD, Array.getD_eq_getD_getElem?] using this
  | e k j z f => simp [cellsOf] at h
  | fe k j z f => simp [cellsOf] at h
  | any => simp [cellsOf] at h
  | tu l => simp [cellsOf] at h
  | _ =>
    simp [cellsOf] at h
    subst h
    obtain rfl : i = 0 := by simpa using hi
    exact h3
theorem RLA.set {l : List AV} {cs : Array Value} (h : RLA ρ l cs) (d : Nat) {a : AV} {v : Value} (hr : a.R0 ρ v) (hd : d < l.length) : RLA ρ (lset l d a) (cs.setIfInBounds d v) := by
  refine ⟨by simp [lset_length, h.1], fun i hi => ?_⟩
  rw [lset_length] at hi
  rw [lget_lset]
  by_cases q : i = d
  · subst q
    rw [if_pos ⟨rfl, hd⟩]
    have : i < cs.size := by rw [← h.1]; exact hd
    simpa [this] using hr
  · rw [if_neg (fun e => q e.1)]
    have : (cs.setIfInBounds d v).getD i undef = cs.getD i undef := by
      simp only [Array.getD_eq_getD_getElem?]
      rw [Array.getElem?_setIfInBounds_ne (Ne.symm q)]
    rw [this]
    exact h.2 i hi
theorem fold_sets (off : Nat) : ∀ (vs : List Value) (as : List AV) (j : Nat) (cs : Array Value) (l : List AV), RL0 ρ as vs → RLA ρ l cs → off + j + as.length ≤ l.length →
    RLA ρ (lsets l (off + j) as) ((vs.zipIdx j).foldl (fun cs x => cs.setIfInBounds (off + x.2) x.1) cs)
  | [], [], j, cs, l, _, h, _ => h
  | v :: vs, a :: as, j, cs, l, hr, h, hlen => by
    simp only [List.zipIdx_cons, List.foldl_cons, lsets]
    have := fold_sets off vs as (j + 1) (cs.setIfInBounds (off + j) v) (lset l (off + j) a) hr.2 (h.set (off + j) hr.1 (by simp at hlen; omega)) (by rw [lset_length]; simp at hlen; omega)
    exact this
  | [], _ :: _, _, _, _, hr, _, _ => hr.elim
  | _ :: _, [], _, _, _, hr, _, _ => hr.elim
def fillG (place : Nat → Option (Nat × Nat)) (cells : List AV) : List (Nat × AV) → Option (List AV)
  | [] => some cells
  | (i, a) :: rest =>
    match place i, cellsOf a with
    | some (off, size), some l => bif Nat.beq l.length size && Nat.ble (off + l.length) cells.length then fillG place (lsets cells off l) rest else none
    | _, _ => none
def RLP (ρ : Nat → Option Nat) : List (Nat × AV) → List (Nat × Value) → Prop
  | [], [] => True
  | a :: as, v :: vs => (a.1 = v.1 ∧ a.2.R ρ v.2) ∧ RLP ρ as vs
  | _, _ => False
theorem fillG_run {place : Nat → Option (Nat × Nat)} : ∀ {parts : List (Nat × AV)} {vs : List (Nat × Value)} {cells l : List AV} {cs : Array Value}, RLP ρ parts vs → RLA ρ cells cs → fillG place cells parts = some l →
    ∃ cs', Instr.fill place cs vs = some cs' ∧ RLA ρ l cs'
  | [], [], cells, l, cs, _, h, e => by simp [fillG] at e; subst e; exact ⟨cs, rfl, h⟩
  | (i, a) :: rest, (i', v) :: vs, cells, l, cs, hr, h, e => by
    obtain ⟨⟨hi, ha⟩, hr⟩ := hr
    simp only at hi ha
    subst hi
    unfold fillG at e
    split at e
    · rename_i off size q hp hq
      cases hb : (Nat.beq q.length size && Nat.ble (off + q.length) cells.length) with
      | false => simp [hb] at e
      | true =>
        simp only [hb, cond_true] at e
        simp only [Bool.and_eq_true] at hb
        have b1 := Nat.eq_of_beq_eq_true hb.1
        have b2 := Nat.le_of_ble_eq_true hb.2
        have hq' := cellsOf_R0 hq ha
        have hf := fold_sets off v.cells.toList q 0 cs cells hq'.rl0 h (by omega)
        obtain ⟨cs', h1, h2⟩ := fillG_run hr hf e
        refine ⟨cs', ?_, h2⟩
        unfold Instr.fill
        rw [hp]
        simp only
        rw [if_neg (by have := hq'.1; have := h.1; simp; omega)]
        rw [← h1]
        congr 1
        rw [← Array.foldl_toList, Array.toList_zipIdx]
    · cases e
  | [], _ :: _, _, _, _, hr, _, _ => hr.elim
  | _ :: _, [], _, _, _, hr, _, _ => hr.elim
def placesL (P : Program) : List Field → Option (List (Nat × Nat))
  | [] => some []
  | f :: fs => match P.info? f.type, placesL P fs with | some i, some r => some ((f.offset, i.size) :: r) | _, _ => none
theorem placesL_run (w : World) : ∀ {fs : List Field} {l : List (Nat × Nat)}, placesL P fs = some l → (fs.mapM fun f => (do pure (f.offset, ← sizeOf f.type) : Sem (Nat × Nat))).run P w = .ok l w
  | [], l, h => by simp [placesL] at h; subst h; rw [List.mapM_nil]; rfl
  | f :: fs, l, h => by
    unfold placesL at h
    split at h
    · rename_i i r hi hr
      cases h
      rw [List.mapM_cons]
      simp only [Sem.run_bind, sizeOf, run_typeInfo w hi, Sem.run_pure, Result.andThen_ok, placesL_run w hr]
      have := placesL_run w hr
      simp only [sizeOf, Sem.run_bind] at this
      first | rw [this] | skip
      rfl
    · cases h
def buildG (P : Program) (t : TypeId) (parts : List (Nat × AV)) : Option (List AV) :=
  match P.underlying t with
  | some (.struct fields) =>
    match placesL P fields.toList, P.info? t with
    | some ps, some i => (match i.zero with | some z => fillG (fun i => ps[i]?) (z.cells.toList.map .v) parts | none => none)
    | _, _ => none
  | _ => none
theorem buildG_run {t : TypeId} {parts : List (Nat × AV)} {l : List AV} (h : buildG P t parts = some l) {vs : Array (Nat × Value)} (hr : RLP ρ parts vs.toList) :
    ∃ cs, RL0 ρ l cs ∧ ∀ w, (Instr.build t vs).run P w = .ok (.agg cs.toArray) w := by
  unfold buildG at h
  split at h
  · rename_i fields hu
    split at h
    · rename_i ps i hp hi
      split at h
      · rename_i z hz
        obtain ⟨cs', h1, h2⟩ := fillG_run hr (cells := z.cells.toList.map .v) (cs := z.cells) ⟨by simp, fun i hi => by
          rw [lget_map _ _ (by simpa using hi)]
          show _ = _
          simp [List.getD, Array.getD_eq_getD_getElem?]⟩ h
        refine ⟨cs'.toList, h2.rl0, fun w => ?_⟩
        have e := placesL_run w hp
        unfold Instr.build
        simp only [zeroValue, Sem.run_bind, run_typeInfo w hi, Result.andThen_ok, hz, Sem.run_pure, run_underlying hu]
        rw [Array.mapM_eq_mapM_toList, Sem.run_map]
        erw [e]
        simp only [Result.andThen_ok]
        have e2 : (fun (i : Nat) => ps.toArray[i]?) = fun (i : Nat) => ps[i]? := by funext i; simp
        simp only [e2, h1]
        simp
      · cases h
    · cases h
  · cases h
def fieldG (P : Program) (s : TypeId) (f : Nat) (l : List AV) : Option AV :=
  match P.underlying s with
  | some (.struct fields) =>
    match fields[f]? with
    | some d =>
      match P.underlying d.type, P.info? d.type with
      | some t, some i => bif isAggD t then none else (bif Nat.blt d.offset l.length && Nat.beq i.size 1 then some (lget l d.offset) else none)
      | _, _ => none
    | none => none
  | _ => none
theorem fieldG_run {s : TypeId} {f : Nat} {l : List AV} {a : AV} (h : fieldG P s f l = some a) {vs : List Value} (hr : RL0 ρ l vs) :
    ∃ v, a.R ρ v ∧ ∀ w, (Instr.field s (.agg vs.toArray) f).run P w = .ok v w := by
  unfold fieldG at h
  split at h
  · rename_i fields hu
    split at h
    · rename_i d hd
      split at h
      · rename_i t i ht hi
        cases ha : isAggD t with
        | true => simp [ha] at h
        | false =>
          simp only [ha, cond_false] at h
          cases hb : (Nat.blt d.offset l.length && Nat.beq i.size 1) with
          | false => simp [hb] at h
          | true =>
            simp only [hb, cond_true, Option.some.injEq] at h
            subst h
            simp only [Bool.and_eq_true] at hb
            have b1 : d.offset < l.length := Nat.le_of_ble_eq_true hb.1
            refine ⟨_, AV.R0_R (hr.get _ b1), fun w => ?_⟩
            have hlen := hr.length
            unfold Instr.field
            simp only [Sem.run_bind, run_underlying hu, Result.andThen_ok, hd, asAgg, Sem.run_pure]
            unfold part
            simp only [Sem.run_bind, run_isAggD ht, Result.andThen_ok, ha, Bool.false_eq_true, if_false]
            have : vs.toArray[d.offset]? = some (vs.getD d.offset undef) := by simp [List.getD, show d.offset < vs.length by omega]
            simp [this]
      · cases h
    · cases h
  · cases h
def bnd (d : Int) : Option AV → Option Int
  | none => some d
  | some (.v (.int _ n)) => some n
  | _ => none
def inS (lo hi : Int) (n : Nat) : Bool := decide (0 ≤ lo) && (decide (lo ≤ hi) && decide (hi ≤ n))
def slR (z : Nat) (lo : Nat) (n' : Nat) : AV → Option (Nat × AV)
  | .sl k o z' n => bif Nat.beq z' z then some (n, .sl k (o + lo) z n') else none
  | .ps k o z' n => bif Nat.beq z' z then some (n, .ps k (o + lo) z n') else none
  | .rs k n | .os k n => some (n, .ps k lo z n')
  | .s k o n c => bif Nat.ble n c then some (n, .s k (bif Nat.beq c lo then o else o + lo * z) n' (c - lo)) else none
  | _ => none
def lenS : AV → Option Nat
  | .sl _ _ _ n | .ps _ _ _ n | .rs _ n | .os _ n | .s _ _ n _ => some n
  | _ => none
def BV (d l : Int) : Option Value → Prop
  | none => l = d
  | some v => ∃ k, v = .int k l
theorem sliceBounds_run {isS : Bool} {n c : Nat} {lo hi : Option Value} {l h : Int} (hl : BV 0 l lo) (hh : BV n h hi)
    (h0 : 0 ≤ l) (h1 : l ≤ h) (h2 : h ≤ n) (hc : n ≤ c) (w : World) : (Instr.sliceBounds isS n c lo hi none).run P w = .ok (l.toNat, h.toNat, c) w := by
  have eh : (h.toNat : Int) = h := Int.toNat_of_nonneg (by omega)
  cases lo with
  | none =>
    have hl : l = 0 := hl
    subst hl
    cases hi with
    | none => have hh : h = n := hh; subst hh; simp [Instr.sliceBounds]
    | some v => obtain ⟨k, rfl⟩ := hh; simp [Instr.sliceBounds, run_sliceBound, *, (by omega : 0 ≤ h), (by omega : h ≤ c)]
  | some u =>
    obtain ⟨k', rfl⟩ := hl
    cases hi with
    | none => have hh : h = n := hh; subst hh; simp [Instr.sliceBounds, run_sliceBound, *]
    | some v => obtain ⟨k, rfl⟩ := hh; simp [Instr.sliceBounds, run_sliceBound, *, eh, (by omega : 0 ≤ h), (by omega : h ≤ c)]
theorem slice_run {t e : TypeId} {i : TypeInfo} (ht : P.underlying t = some (.slice e)) (hi' : P.info? e = some i) {a : Option Addr} {n c : Nat} {lo hi : Option Value} {l h : Int}
    (hl : BV 0 l lo) (hh : BV n h hi) (h0 : 0 ≤ l) (h1 : l ≤ h) (h2 : h ≤ n) (hc : n ≤ c) (w : World) :
    (Instr.sliceAt t (.slice a n c) lo hi none).run P w = .ok (.slice (if c = l.toNat then a else a.map (·.add (l.toNat * i.size))) (h.toNat - l.toNat) (c - l.toNat)) w := by
  unfold Instr.sliceAt
  simp only [Sem.run_bind, run_underlying ht, Result.andThen_ok]
  unfold Instr.slice
  simp only [Sem.run_bind, run_underlying ht, Result.andThen_ok, sliceBounds_run hl hh h0 h1 h2 hc, sizeOf, run_typeInfo w hi', Sem.run_pure]
theorem sliceStr_run {t : TypeId} (ht : P.underlying t = some .string) {s : ByteArray} {lo hi : Option Value} {l h : Int}
    (hl : BV 0 l lo) (hh : BV s.size h hi) (h0 : 0 ≤ l) (h1 : l ≤ h) (h2 : h ≤ s.size) (w : World) :
    (Instr.sliceAt t (.string s) lo hi none).run P w = .ok (.string (s.extract l.toNat h.toNat)) w := by
  unfold Instr.sliceAt
  simp only [Sem.run_bind, run_underlying ht, Result.andThen_ok]
  unfold Instr.slice
  simp only [Sem.run_bind, run_underlying ht, Result.andThen_ok, Option.isSome_none, Bool.false_eq_true, if_false, sliceBounds_run hl hh h0 h1 h2 (Nat.le_refl _), Sem.run_pure]
def strOf : AV → Option ByteArray
  | .v (.string s) => some s
  | _ => none
theorem strOf_R {a : AV} {s : ByteArray} {v : Value} (h : strOf a = some s) (hr : a.R ρ v) : v = .string s := by
  unfold strOf at h
  split at h
  · cases h; exact hr
  · cases h
def sliceS (P : Program) (t : TypeId) (s : ByteArray) (lo hi : Option AV) (K : AV → Prop) : Prop :=
  match P.underlying t, bnd 0 lo, bnd s.size hi with
  | some .string, some l, some h => bcase (inS l h s.size) (K (.v (.string (s.extract l.toNat h.toNat)))) False
  | _, _, _ => False
def sliceW (P : Program) (t : TypeId) (x : AV) (lo hi : Option AV) (K : AV → Prop) : Prop :=
  match lenS x with
  | some n =>
    (match sliceElem P t, bnd 0 lo, bnd n hi with
    | some z, some l, some h => (match slR z l.toNat (h.toNat - l.toNat) x with | some (m, r) => bcase (inS l h n && Nat.beq m n) (K r) False | none => False)
    | _, _, _ => False)
  | none => False
def sliceX (P : Program) (t : TypeId) (x : AV) (lo hi mx : Option AV) (K : AV → Prop) : Prop :=
  match mx with
  | some _ => False
  | none => match strOf x with | some s => sliceS P t s lo hi K | none => sliceW P t x lo hi K
def OptR (ρ : Nat → Option Nat) : Option AV → Option Value → Prop
  | none, none => True
  | some a, some b => a.R ρ b
  | _, _ => False
theorem bnd_run {d : Int} {x : Option AV} {v : Option Value} {l : Int} (h : bnd d x = some l) (hr : OptR ρ x v) : BV d l v := by
  unfold bnd at h
  split at h
  · cases h
    cases v with
    | none => exact rfl
    | some v => exact hr.elim
  · rename_i k n
    cases h
    cases v with
    | none => exact hr.elim
    | some v => exact ⟨k, hr⟩
  · cases h
theorem inS_iff {l h : Int} {n : Nat} (e : inS l h n = true) : 0 ≤ l ∧ l ≤ h ∧ h ≤ n := by
  unfold inS at e
  simpa using e
theorem bcase_T {b : Bool} {p : Prop} (h : bcase b p False) : b = true ∧ p := by
  cases b with
  | true => exact ⟨rfl, h⟩
  | false => exact h.elim
theorem sliceS_val {t : TypeId} {s : ByteArray} {lo hi : Option AV} {K : AV → Prop} (h : sliceS P t s lo hi K) :
    ∃ α, K α ∧ ∀ (ρ : Nat → Option Nat) (u v : Option Value), OptR ρ lo u → OptR ρ hi v → ∃ r, α.R ρ r ∧ ∀ w, (Instr.sliceAt t (.string s) u v none).run P w = .ok r w := by
  unfold sliceS at h
  split at h
  · rename_i l r ht hl hr
    obtain ⟨hb, hk⟩ := bcase_T h
    obtain ⟨h0, h1, h2⟩ := inS_iff hb
    exact ⟨_, hk, fun ρ u v hu hv => ⟨_, rfl, fun w => sliceStr_run ht (bnd_run hl hu) (bnd_run hr hv) h0 h1 h2 w⟩⟩
  · exact h.elim
theorem sliceW_val {t : TypeId} {x : AV} {lo hi : Option AV} {K : AV → Prop} (h : sliceW P t x lo hi K) :
    ∃ α, K α ∧ ∀ (ρ : Nat → Option Nat) (a : Value) (u v : Option Value), x.R ρ a → OptR ρ lo u → OptR ρ hi v → ∃ r, α.R ρ r ∧ ∀ w, (Instr.sliceAt t a u v none).run P w = .ok r w := by
  unfold sliceW at h
  split at h
  · rename_i n hn
    split at h
    · rename_i z l r hz hl hr
      split at h
      · rename_i m ra hs
        obtain ⟨hb, hk⟩ := bcase_T h
        simp only [Bool.and_eq_true] at hb
        have hm := Nat.eq_of_beq_eq_true hb.2
        subst hm
        obtain ⟨h0, h1, h2⟩ := inS_iff hb.1
        refine ⟨_, hk, fun ρ a u v hx hu hv => ?_⟩
        unfold sliceElem at hz
        split at hz
        · rename_i e ht
          split at hz
          · rename_i inf hinf
            cases hz
            have run : ∀ {ad : Option Addr} {c : Nat}, m ≤ c → a = .slice ad m c → ∀ w, (Instr.sliceAt t a u v none).run P w = .ok (.slice (if c = l.toNat then ad else ad.map (·.add (l.toNat * inf.size))) (r.toNat - l.toNat) (c - l.toNat)) w := fun {ad c} hc e w => by
              subst e
              exact slice_run ht hinf (bnd_run hl hu) (bnd_run hr hv) h0 h1 h2 hc w
            have full : ∀ {b o c : Nat}, m ≤ c → a = .slice (some ⟨b, o, none⟩) m c → r.toNat - l.toNat ≠ 0 → ∀ w, (Instr.sliceAt t a u v none).run P w = .ok (.slice (some ⟨b, o + l.toNat * inf.size, none⟩) (r.toNat - l.toNat) (c - l.toNat)) w := fun {b o c} hc e h0 w => by
              rw [run hc e w, if_neg (by omega)]
              simp [addr_add]
            have noth : (∃ ad c, m ≤ c ∧ a = .slice ad m c) → r.toNat - l.toNat = 0 → ∃ ad c, ∀ w, (Instr.sliceAt t a u v none).run P w = .ok (.slice ad 0 c) w := fun ⟨ad, c, hc, e⟩ h0 =>
              ⟨_, _, fun w => by rw [run hc e w, h0]⟩
            have room : ∀ {c : Nat}, m ≤ c → r.toNat - l.toNat ≤ c - l.toNat := fun hc => by omega
            cases x with
            | sl k o z n =>
              simp only [lenS, Option.some.injEq] at hn
              subst hn
              simp only [slR] at hs
              cases hzz : Nat.beq z inf.size with
              | false => simp [hzz] at hs
              | true =>
                simp only [hzz, cond_true, Option.some.injEq, Prod.mk.injEq] at hs
                obtain ⟨_, rfl⟩ := hs
                obtain rfl := Nat.eq_of_beq_eq_true hzz
                by_cases h00 : r.toNat - l.toNat = 0
                · obtain ⟨ad, c, hq⟩ := noth (by
                    by_cases hm0 : n = 0
                    · obtain ⟨ad, c, e⟩ := hx.1 hm0; exact ⟨ad, c, by omega, by rw [e, hm0]⟩
                    · obtain ⟨b, c, off, _, hc, e⟩ := hx.2 hm0; exact ⟨_, c, hc.2, e⟩) h00
                  exact ⟨_, ⟨fun _ => ⟨ad, c, rfl⟩, fun q => absurd h00 q⟩, hq⟩
                · obtain ⟨b, c, off, hb, hc, e⟩ := hx.2 (by omega)
                  exact ⟨_, ⟨fun q => absurd q h00, fun _ => ⟨b, c - l.toNat, off, hb, ⟨hc.1, room hc.2⟩, by rw [Nat.add_mul, Nat.add_assoc]⟩⟩, full hc.2 e h00⟩
            | ps k o z n =>
              simp only [lenS, Option.some.injEq] at hn
              subst hn
              simp only [slR] at hs
              cases hzz : Nat.beq z inf.size with
              | false => simp [hzz] at hs
              | true =>
                simp only [hzz, cond_true, Option.some.injEq, Prod.mk.injEq] at hs
                obtain ⟨_, rfl⟩ := hs
                obtain rfl := Nat.eq_of_beq_eq_true hzz
                by_cases h00 : r.toNat - l.toNat = 0
                · obtain ⟨ad, c, hq⟩ := noth (by
                    by_cases hm0 : n = 0
                    · obtain ⟨ad, c, e⟩ := hx.1 hm0; exact ⟨ad, c, by omega, by rw [e, hm0]⟩
                    · obtain ⟨b, c, _, hc, e⟩ := hx.2 hm0; exact ⟨_, c, hc, e⟩) h00
                  exact ⟨_, ⟨fun _ => ⟨ad, c, rfl⟩, fun q => absurd h00 q⟩, hq⟩
                · obtain ⟨b, c, hb, hc, e⟩ := hx.2 (by omega)
                  exact ⟨_, ⟨fun q => absurd q h00, fun _ => ⟨b, c - l.toNat, hb, room hc, by rw [Nat.add_mul]⟩⟩, full hc e h00⟩
            | rs k n =>
              simp only [lenS, Option.some.injEq] at hn
              subst hn
              simp only [slR, Option.some.injEq, Prod.mk.injEq] at hs
              obtain ⟨_, rfl⟩ := hs
              obtain ⟨b, c, hb, hc, e⟩ := hx
              by_cases h00 : r.toNat - l.toNat = 0
              · obtain ⟨ad, c, hq⟩ := noth ⟨_, c, hc.2, e⟩ h00
                exact ⟨_, ⟨fun _ => ⟨ad, c, rfl⟩, fun q => absurd h00 q⟩, hq⟩
              · exact ⟨_, ⟨fun q => absurd q h00, fun _ => ⟨b, c - l.toNat, hb, room hc.2, by rw [Nat.zero_add]⟩⟩, full hc.2 e h00⟩
            | os k n =>
              simp only [lenS, Option.some.injEq] at hn
              subst hn
              simp only [slR, Option.some.injEq, Prod.mk.injEq] at hs
              obtain ⟨_, rfl⟩ := hs
              by_cases h00 : r.toNat - l.toNat = 0
              · obtain ⟨ad, c, hq⟩ := noth (by
                  by_cases hm0 : n = 0
                  · exact ⟨none, 0, by omega, by rw [hx.1 hm0, hm0]⟩
                  · obtain ⟨b, c, _, hc, e⟩ := hx.2 hm0; exact ⟨_, c, hc.2, e⟩) h00
                exact ⟨_, ⟨fun _ => ⟨ad, c, rfl⟩, fun q => absurd h00 q⟩, hq⟩
              · obtain ⟨b, c, hb, hc, e⟩ := hx.2 (by omega)
                exact ⟨_, ⟨fun q => absurd q h00, fun _ => ⟨b, c - l.toNat, hb, room hc.2, by rw [Nat.zero_add]⟩⟩, full hc.2 e h00⟩
            | s k o n c =>
              simp only [lenS, Option.some.injEq] at hn
              subst hn
              simp only [slR] at hs
              cases hzz : Nat.ble n c with
              | false => simp [hzz] at hs
              | true =>
                simp only [hzz, cond_true, Option.some.injEq, Prod.mk.injEq] at hs
                obtain ⟨_, rfl⟩ := hs
                obtain ⟨b, hb, e⟩ := hx
                refine ⟨_, ⟨b, hb, rfl⟩, fun w => ?_⟩
                rw [run (Nat.le_of_ble_eq_true hzz) e w]
                by_cases hcl : c = l.toNat
                · rw [if_pos hcl, show Nat.beq c l.toNat = true from by rw [hcl]; exact Nat.beq_refl _]; rfl
                · have : Nat.beq c l.toNat = false := by
                    cases e : Nat.beq c l.toNat with
                    | false => rfl
                    | true => exact absurd (Nat.eq_of_beq_eq_true e) hcl
                  rw [if_neg hcl, this]
                  simp [addr_add]
            | _ => simp [lenS] at hn
          · cases hz
        · cases hz
      · exact h.elim
    · exact h.elim
  · exact h.elim
def ptrOf : AV → Option (Nat × Nat) | .p k o => some (k, o) | _ => none
theorem ptrOf_iff {a : AV} {k o : Nat} (h : ptrOf a = some (k, o)) : a = .p k o := by cases a <;> simp [ptrOf] at h; simp [h]
def sliceP (P : Program) (t : TypeId) (k o : Nat) (lo hi mx : Option AV) (K : AV → Prop) (other : Prop) : Prop :=
  match P.underlying t with
  | some (.array n e) =>
    match P.info? e, mx, bnd 0 lo, bnd n hi with
    | some inf, none, some l, some h => bcase (inS l h n) (K (.s k (bif Nat.beq n l.toNat then o else o + l.toNat * inf.size) (h.toNat - l.toNat) (n - l.toNat))) False
    | _, _, _, _ => other
  | _ => other
theorem sliceP_val {t : TypeId} {k o : Nat} {lo hi : Option AV} {mx : Option AV} {K : AV → Prop} {other : Prop} (h : sliceP P t k o lo hi mx K other) :
    other ∨ (mx = none ∧ ∃ α, K α ∧ ∀ (ρ : Nat → Option Nat) (m : Nat) (u v : Option Value), ρ k = some m → OptR ρ lo u → OptR ρ hi v → ∃ r, α.R ρ r ∧ ∀ w, (Instr.sliceAt t (.pointer (some ⟨m, o, none⟩)) u v none).run P w = .ok r w) := by
  unfold sliceP at h
  split at h
  · rename_i n e ht
    split at h
    · rename_i inf l r hi' hl hr
      obtain ⟨hin, hk⟩ := bcase_T h
      obtain ⟨h0, h1, h2⟩ := inS_iff hin
      refine .inr ⟨rfl, _, hk, fun ρ m u v hm hu hv => ?_⟩
      refine ⟨_, R_s _ _ _ hm, fun w => ?_⟩
      simp only [Instr.sliceAt, Sem.run_bind, run_underlying ht, Result.andThen_ok, Instr.sureAddr, Sem.run_pure, sliceBounds_run (bnd_run hl hu) (bnd_run hr hv) h0 h1 h2 (Nat.le_refl _) w, sizeOf, run_typeInfo w hi']
      by_cases q : n = l.toNat
      · have : Nat.beq n l.toNat = true := by rw [← q]; simp
        rw [if_pos q, this]; rfl
      · have : Nat.beq n l.toNat = false := by
          cases e : Nat.beq n l.toNat with
          | false => rfl
          | true => exact absurd (Nat.eq_of_beq_eq_true e) q
        rw [if_neg q, this, addr_add]; rfl
    · exact .inl h
  · exact .inl h
def byteAt (s : ByteArray) (j : Int) : Int := ((s.get! j.toNat).toNat : Int)
def valOp (P : Program) (o : Oper) (tm : List AV) (K : AV → Prop) (other : Prop) : Prop :=
  match o.op with
  | .build t parts => (bif parts.toList.all (fun q => isV (ev tm q.2)) then other else match buildG P t (parts.toList.map fun q => (q.1, ev tm q.2)) with | some l => K (.ag l) | none => False)
  | .extract x i => (match ev tm x with | .tu l => (bif Nat.blt i l.length then K (lget l i) else False) | _ => other)
  | .field s x f => (match ev tm x with | .ag l => (match fieldG P s f l with | some a => K a | none => False) | _ => other)
  | .slice t x lo hi mx => match ptrOf (ev tm x) with | some q => sliceP P t q.1 q.2 (lo.map (ev tm)) (hi.map (ev tm)) (mx.map (ev tm)) K other | none => (match lenS (ev tm x), strOf (ev tm x) with | none, none => other | _, _ => sliceX P t (ev tm x) (lo.map (ev tm)) (hi.map (ev tm)) (mx.map (ev tm)) K)
  | .index t x i => (match strOf (ev tm x), ev tm i, P.underlying t with | some s, .v (.int _ j), some .string => bcase (inB j s.size) (K (.v (.int .u8 (byteAt s j)))) False | _, _, _ => other)
  | .sliceToArrayPointer t x => (match ev tm x, P.underlying t with | .s k o n _, some (.array m _) => (bif Nat.ble m n then K (.p k o) else False) | _, _ => other)
  | _ => other
theorem RL1.get {ρ : Nat → Option Nat} : ∀ {as : List AV} {vs : List Value}, RL1 ρ as vs → ∀ i, i < as.length → ∃ v, vs[i]? = some v ∧ (lget as i).R1 ρ v
  | [], [], _, i, hi => by simp at hi
  | _ :: _, v :: _, hr, 0, _ => ⟨v, rfl, hr.1⟩
  | _ :: _, _ :: _, hr, i + 1, hi => by simpa [lget] using RL1.get hr.2 i (by simpa using hi)
  | [], _ :: _, hr, _, _ => hr.elim
  | _ :: _, [], hr, _, _ => hr.elim
theorem AV.R1_R {a : AV} {v : Value} (h : a.R1 ρ v) : a.R ρ v := by
  cases a <;> first | exact h | exact h.elim
theorem RLP.ofMap (f : Operand → AV) (g : Operand → Value) : ∀ (l : List (Nat × Operand)), (∀ q ∈ l, (f q.2).R ρ (g q.2)) → RLP ρ (l.map fun q => (q.1, f q.2)) (l.map fun q => (q.1, g q.2))
  | [], _ => trivial
  | q :: l, h => ⟨⟨rfl, h q (by simp)⟩, RLP.ofMap f g l fun x hx => h x (by simp [hx])⟩
theorem byte_get (s : ByteArray) {j : Nat} (h : j < s.size) : s.get! j = s[j] := by
  cases s with
  | mk d =>
    show d[j]! = d[j]
    have : j < d.size := h
    simp [this]
theorem valOp_val {o : Oper} {tm : List AV} {K : AV → Prop} {other : Prop} (h : valOp P o tm K other) :
    other ∨ ∃ α, K α ∧ ∀ (ρ : Nat → Option Nat) (a : Act), (∀ x ∈ o.op.operands, (ev tm x).R ρ (a.eval x)) → ∃ v, α.R ρ v ∧ ∀ w, (execOp a.eval o).run P w = .ok (.value v) w := by
  unfold valOp at h
  split at h
  · rename_i t parts ho
    cases hb : parts.toList.all (fun q => isV (ev tm q.2)) with
    | true => rw [hb] at h; exact .inl h
    | false =>
      rw [hb] at h
      simp only [cond_false] at h
      split at h
      · rename_i l hl
        refine .inr ⟨_, h, fun ρ a he => ?_⟩
        have hm : ∀ q ∈ parts.toList, (ev tm q.2).R ρ (a.eval q.2) := fun q hq => he q.2 (by
          rw [ho]
          simp only [Op.operands, List.mem_toArray, List.mem_map]
          exact ⟨q, hq, rfl⟩)
        obtain ⟨cs, h1, h2⟩ := buildG_run (ρ := ρ) hl (vs := parts.map fun (i, x) => (i, a.eval x)) (by
          rw [Array.toList_map]
          exact RLP.ofMap (ev tm) a.eval parts.toList hm)
        exact ⟨_, ⟨cs, rfl, h1⟩, fun w => by
          simp only [execOp, ho, Sem.run_bind]
          rw [h2 w]
          rfl⟩
      · exact h.elim
  · rename_i x i ho
    split at h
    · rename_i l hl
      cases hb : Nat.blt i l.length with
      | false => simp [hb] at h
      | true =>
        simp only [hb, cond_true] at h
        refine .inr ⟨_, h, fun ρ a he => ?_⟩
        have hx := he x (by rw [ho]; simp [Op.operands])
        rw [hl] at hx
        obtain ⟨vs, e, hq⟩ := hx
        obtain ⟨v, h1, h2⟩ := hq.get i (Nat.le_of_ble_eq_true hb)
        exact ⟨v, AV.R1_R h2, fun w => by
          simp only [execOp, ho, e, Instr.extract, Sem.run_bind]
          simp [h1]⟩
    · exact .inl h
  · rename_i s x f ho
    split at h
    · rename_i l hl
      split at h
      · rename_i r hf
        refine .inr ⟨_, h, fun ρ a he => ?_⟩
        have hx := he x (by rw [ho]; simp [Op.operands])
        rw [hl] at hx
        obtain ⟨vs, e, hq⟩ := hx
        obtain ⟨v, h1, h2⟩ := fieldG_run hf hq
        exact ⟨v, h1, fun w => by
          simp only [execOp, ho, e, Sem.run_bind]
          rw [h2 w]
          rfl⟩
      · exact h.elim
    · exact .inl h
  · rename_i t x lo hi mx ho
    have hop : ∀ (ρ : Nat → Option Nat) (a : Act), (∀ x ∈ o.op.operands, (ev tm x).R ρ (a.eval x)) → (ev tm x).R ρ (a.eval x) ∧ OptR ρ (lo.map (ev tm)) (lo.map a.eval) ∧ OptR ρ (hi.map (ev tm)) (hi.map a.eval) := fun ρ a he => by
      rw [ho] at he
      refine ⟨he x (by simp [Op.operands]), ?_, ?_⟩
      · cases lo with
        | none => trivial
        | some y => exact he y (by simp [Op.operands])
      · cases hi with
        | none => trivial
        | some y => exact he y (by simp [Op.operands])
    have main : sliceX P t (ev tm x) (lo.map (ev tm)) (hi.map (ev tm)) (mx.map (ev tm)) K → ∃ α, K α ∧ ∀ (ρ : Nat → Option Nat) (a : Act), (∀ x ∈ o.op.operands, (ev tm x).R ρ (a.eval x)) → ∃ v, α.R ρ v ∧ ∀ w, (execOp a.eval o).run P w = .ok (.value v) w := fun h => by
      unfold sliceX at h
      cases mx with
      | some m => exact h.elim
      | none =>
        simp only [Option.map_none] at h
        split at h
        · rename_i s hs
          obtain ⟨α, h1, h2⟩ := sliceS_val h
          refine ⟨α, h1, fun ρ a he => ?_⟩
          obtain ⟨q1, q2, q3⟩ := hop ρ a he
          obtain ⟨r, h3, h4⟩ := h2 ρ _ _ q2 q3
          refine ⟨r, h3, fun w => ?_⟩
          simp only [execOp, ho, Sem.run_bind, Option.map_none, strOf_R hs q1, h4 w]
          rfl
        · obtain ⟨α, h1, h2⟩ := sliceW_val h
          refine ⟨α, h1, fun ρ a he => ?_⟩
          obtain ⟨q1, q2, q3⟩ := hop ρ a he
          obtain ⟨r, h3, h4⟩ := h2 ρ _ _ _ q1 q2 q3
          refine ⟨r, h3, fun w => ?_⟩
          simp only [execOp, ho, Sem.run_bind, Option.map_none, h4 w]
          rfl
    cases hpt : ptrOf (ev tm x) with
    | some q =>
      obtain ⟨k, o'⟩ := q
      simp only [hpt] at h
      rcases sliceP_val h with h | ⟨hmx, α, hk, hs⟩
      · exact .inl h
      · refine .inr ⟨α, hk, fun ρ a he => ?_⟩
        obtain ⟨q1, q2, q3⟩ := hop ρ a he
        rw [ptrOf_iff hpt] at q1
        obtain ⟨m, hm, e⟩ := q1
        obtain ⟨r, h3, h4⟩ := hs ρ m _ _ hm q2 q3
        refine ⟨r, h3, fun w => ?_⟩
        have hmx : mx = none := by cases mx with | none => rfl | some _ => cases hmx
        subst hmx
        simp only [execOp, ho, Sem.run_bind, Option.map_none, e, h4 w]
        rfl
    | none =>
    simp only [hpt] at h
    split at h
    · exact .inl h
    · exact .inr (main h)
  · rename_i t x i ho
    split at h
    · rename_i s k j hs hi hu
      obtain ⟨hb, hk⟩ := bcase_T h
      refine .inr ⟨_, hk, fun ρ a he => ?_⟩
      rw [ho] at he
      have hx := strOf_R hs (he x (by simp [Op.operands]))
      have hj := he i (by simp [Op.operands])
      rw [hi] at hj
      have hj : a.eval i = .int k j := hj
      refine ⟨_, rfl, fun w => ?_⟩
      unfold inB at hb
      simp only [Bool.and_eq_true, decide_eq_true_eq] at hb
      have hlt : j.toNat < s.size := by omega
      simp only [execOp, ho, hx, hj, Instr.index, Sem.run_bind, asIntOf, Sem.run_pure, Result.andThen_ok, run_underlying hu]
      have e : (if 0 ≤ j then s[j.toNat]? else none) = some (s.get! j.toNat) := by
        rw [if_pos hb.1]
        have : s[j.toNat]? = some s[j.toNat] := by simp [hlt]
        rw [this]
        congr 1
        exact (byte_get s hlt).symm
      simp only [e]
      rfl
    · exact .inl h
  · rename_i t x ho
    split at h
    · rename_i k o' n c m el hx ht
      cases hb : Nat.ble m n with
      | false => simp [hb] at h
      | true =>
        simp only [hb, cond_true] at h
        refine .inr ⟨_, h, fun ρ a he => ?_⟩
        rw [ho] at he
        have q := he x (by simp [Op.operands])
        rw [hx] at q
        obtain ⟨g, hg, e⟩ := q
        have hle := Nat.le_of_ble_eq_true hb
        refine ⟨_, R_p _ hg, fun w => ?_⟩
        simp only [execOp, ho, e, Instr.arrayAt, Sem.run_bind, run_underlying ht, Result.andThen_ok]
        rw [if_neg (by omega)]
        rfl
    · exact .inl h
  · exact .inl h
theorem Rel.noteB {H : Nat → Option Blk} (h : Rel B w0 ρ H w) {k : Nat} (hk : H k = none) (n : Nat) {b : Blk} (hb : ¬ b.live) : Rel B w0 (rnew ρ k n) (upd H k b) w := by
  have hp' : Ext ρ (rnew ρ k n) := Ext.new (h.dom k hk) _
  refine ⟨h.below, h.base, fun i hi => ?_, fun i j b x y hi hj hx hy lx ly oy => ?_, fun i m x hi hx hl => ?_, fun i x hx => ?_, h.keeps⟩
  · unfold upd at hi
    unfold rnew
    by_cases q : i = k
    · rw [if_pos q] at hi; cases hi
    · rw [if_neg q] at hi ⊢; exact h.dom i hi
  · unfold rnew at hi hj
    unfold upd at hx hy
    by_cases q : i = k
    · rw [if_pos q] at hx; cases hx; exact absurd lx hb
    · by_cases r : j = k
      · rw [if_pos r] at hy; cases hy; exact absurd ly hb
      · rw [if_neg q] at hi hx; rw [if_neg r] at hj hy; exact h.inj i j b x y hi hj hx hy lx ly oy
  · unfold rnew at hi
    unfold upd at hx
    by_cases q : i = k
    · rw [if_pos q] at hx; cases hx; exact absurd hl hb
    · rw [if_neg q] at hi hx
      obtain ⟨h0, cs', h1, h2⟩ := h.blk i m x hi hx hl
      exact ⟨h0, cs', h1, h2.mono hp'⟩
  · unfold upd at hx
    unfold rnew
    by_cases q : i = k
    · exact ⟨_, if_pos q⟩
    · rw [if_neg q] at hx ⊢; exact h.lies i x hx
def srcRow (t : ET) (r : Row) (K : List t.ty → Prop) : Prop := match decEq r.t t with | .isTrue h => K (castRow h r.xs) | .isFalse _ => False
theorem srcRow_of {t : ET} {r : Row} {K : List t.ty → Prop} (h : srcRow t r K) : ∃ xs, K xs ∧ r.E.z = t.enc.z ∧ r.xs.length = xs.length ∧ r.vals = xs.flatMap t.enc.enc := by
  unfold srcRow at h
  split at h
  · rename_i e _
    obtain ⟨t', ys, g⟩ := r
    simp only at e h
    subst e
    exact ⟨_, h, rfl, rfl, rfl⟩
  · exact h.elim
def srcY (hp : List Blk) (T : TypeId) (t : ET) (a : AV) (K : Nat → List t.ty → Bool → Prop) : Prop :=
  match a with
  | .v (.slice none 0 0) => K 0 [] false
  | .s k o m c =>
    (match hp[k]? with
    | some b =>
      (match b.own, b.row, vals ((b.cs.drop o).take (m * t.enc.z)) with
      | some _, none, some l =>
        bif Nat.beq b.T T && (Nat.ble m c && (Nat.beq (o / t.enc.z * t.enc.z) o && Nat.ble (o + m * t.enc.z) b.cs.length)) then
          (match decs t.enc m l with | some ys => K m ys (Nat.blt 0 m) | none => False) else False
      | _, _, _ => False)
    | none => False)
  | .rs k n | .os k n => (match hp[k]? with | some b => (match b.row with | some r => bif isMine b && Nat.beq b.T T then n = r.xs.length ∧ srcRow t r (fun xs => K n xs false) else False | none => False) | none => False)
  | .ps k o z n => (match hp[k]? with | some b => (match b.row with | some r => bif isMine b && (Nat.beq b.T T && Nat.beq z r.E.z) then srcRow t r (fun xs => (o + n ≤ xs.length) ∧ K n ((bif Nat.beq o 0 then xs else xs.drop o).take n) false) else False | none => False) | none => False)
  | .sl k o z n => (match hp[k]? with | some b => (match b.own, b.row with | some false, some r => bif Nat.beq b.T T && Nat.beq z r.E.z then srcRow t r (fun xs => (o + n ≤ xs.length) ∧ K n ((bif Nat.beq o 0 then xs else xs.drop o).take n) false) else False | _, _ => False) | none => False)
  | _ => False
theorem take_drop_flat {t : ET} {xs : List t.ty} {o n : Nat} (h : o + n ≤ xs.length) : ((xs.flatMap t.enc.enc).drop (o * t.enc.z)).take (n * t.enc.z) = ((xs.drop o).take n).flatMap t.enc.enc := by
  have hd : ∀ (o : Nat) (xs : List t.ty), o ≤ xs.length → (xs.flatMap t.enc.enc).drop (o * t.enc.z) = (xs.drop o).flatMap t.enc.enc := by
    intro o
    induction o with
    | zero => intro xs _; simp
    | succ o ih =>
      intro xs hx
      cases xs with
      | nil => simp at hx
      | cons x xs =>
        rw [List.flatMap_cons, List.drop_succ_cons, ← ih xs (by simpa using hx), Nat.add_mul, Nat.one_mul, Nat.add_comm, ← List.drop_drop]
        congr 1
        rw [← t.enc.len x, List.drop_left]
  have ht : ∀ (n : Nat) (xs : List t.ty), n ≤ xs.length → (xs.flatMap t.enc.enc).take (n * t.enc.z) = (xs.take n).flatMap t.enc.enc := by
    intro n
    induction n with
    | zero => intro xs _; simp
    | succ n ih =>
      intro xs hx
      cases xs with
      | nil => simp at hx
      | cons x xs =>
        rw [List.flatMap_cons, List.take_succ_cons, List.flatMap_cons, ← ih xs (by simpa using hx), Nat.add_mul, Nat.one_mul, Nat.add_comm, ← t.enc.len x, List.take_length_add_append]
  rw [hd o xs (by omega), ht n _ (by simp; omega)]
theorem oif (o : Nat) {α : Type} (xs : List α) : (bif Nat.beq o 0 then xs else xs.drop o) = xs.drop o := by
  cases h : Nat.beq o 0 with
  | true => have := Nat.eq_of_beq_eq_true h; subst this; rfl
  | false => rfl
theorem Rel.rcells {H : Nat → Option Blk} (h : Rel B w0 ρ H w) {k n : Nat} {b : Blk} {r : Row} (hk : ρ k = some n) (hb : H k = some b) (ho : b.own = some true) (hw : b.row = some r) (hne : r.xs ≠ []) :
    ∃ cs, w.heap[n]? = some (.cells cs b.T (0, 0)) ∧ cs.toList.take (r.xs.length * r.E.z) = r.vals := by
  have hl : b.live := ⟨by rw [ho]; simp, fun r' e => by rw [hw] at e; cases e; exact .inr hne⟩
  obtain ⟨_, cs, h1, h2⟩ := h.blk k n b hk hb hl
  unfold Blk.fit at h2
  simp only [hw, ho] at h2
  obtain ⟨cap, _, _, _, _, q4⟩ := h2
  exact ⟨cs, h1.own ho, q4⟩
theorem Rel.fcells {H : Nat → Option Blk} (h : Rel B w0 ρ H w) {k n off : Nat} {b : Blk} {r : Row} (hk : ρ k = some n) (hoff : ρ (k + 1) = some off) (hb : H k = some b) (ho : b.own = some false) (hw : b.row = some r) (hne : r.xs ≠ []) :
    ∃ cs T' fz, w.heap[n]? = some (.cells cs T' fz) ∧ (cs.toList.drop off).take (r.xs.length * r.E.z) = r.vals := by
  have hl : b.live := ⟨by rw [ho]; simp, fun r' e => by rw [hw] at e; cases e; exact .inr hne⟩
  obtain ⟨_, cs, ⟨T', fz, h1, _⟩, h2⟩ := h.blk k n b hk hb hl
  unfold Blk.fit at h2
  simp only [hw, ho] at h2
  obtain ⟨off', e, q4⟩ := h2
  rw [hoff] at e
  cases e
  exact ⟨cs, T', fz, h1, q4⟩
theorem cellAt {w : World} {n : Nat} {cs : Array Value} {T : TypeId} {fz : Nat × Nat} (h : w.heap[n]? = some (.cells cs T fz)) (j : Nat) : w.cell? ⟨n, j, none⟩ = cs.toList[j]? := by
  simp [World.cell?, h]
theorem Holds.cells {v : Value} {T : TypeId} {t : ET} {xs : List t.ty} (h : Holds w v T t xs) (h0 : xs.length ≠ 0) :
    ∃ ad c, v = .slice (some ad) xs.length c ∧ ∀ j u, (xs.flatMap t.enc.enc)[j]? = some u → w.cell? (ad.add j) = some u := by
  obtain ⟨b, off, c, cs, T', fz, e, _, h1, h2⟩ := h.some' h0
  refine ⟨_, c, e, fun j u hj => ?_⟩
  rw [addr_add, cellAt h1]
  rw [← h2, List.getElem?_take] at hj
  split at hj
  · rw [List.getElem?_drop] at hj; exact hj
  · cases hj
def avK1 : AV → List Nat
  | .p k _ | .s k _ _ _ | .e k _ _ _ | .rs k _ | .os k _ | .ps k _ _ _ | .sl k _ _ _ | .fe k _ _ _ => [k]
  | _ => []
def avK : AV → List Nat
  | .ag l => l.flatMap avK1
  | a => avK1 a
theorem srcY_run {hp : List Blk} {T : TypeId} {t : ET} {a : AV} {K : Nat → List t.ty → Bool → Prop} (hs : srcY hp T t a K) :
    ∃ m ys pos, K m ys pos ∧ ys.length = m ∧ (pos = true → 0 < m) ∧ ∀ {w : World} {ρ : Nat → Option Nat} {H : Nat → Option Blk} {v : Value}, Rel B w0 ρ H w → (∀ k ∈ avK1 a, ∀ b, hp[k]? = some b → H k = some b) → a.R ρ v → Holds w v T t ys := by
  unfold srcY at hs
  split at hs
  · refine ⟨0, [], false, hs, rfl, (fun q => by cases q), fun {w ρ H v} h hH hr => ?_⟩
    have hr : v = .slice none 0 0 := hr
    subst hr
    exact ⟨fun _ => ⟨none, 0, rfl⟩, fun q => absurd rfl q⟩
  · rename_i k o m c
    split at hs
    · rename_i b hb0
      split at hs
      · rename_i ob l ho hw hv
        cases hm : (Nat.beq b.T T && (Nat.ble m c && (Nat.beq (o / t.enc.z * t.enc.z) o && Nat.ble (o + m * t.enc.z) b.cs.length))) with
        | false => simp [hm] at hs
        | true =>
          simp only [hm, cond_true] at hs
          simp only [Bool.and_eq_true] at hm
          obtain ⟨m1, m2, m3, m4⟩ := hm
          obtain rfl := Nat.eq_of_beq_eq_true m1
          have m2 := Nat.le_of_ble_eq_true m2
          have m3 := Nat.eq_of_beq_eq_true m3
          have m4 := Nat.le_of_ble_eq_true m4
          split at hs
          · rename_i ys hy
            obtain ⟨e1, e2⟩ := decs_back hy
            obtain ⟨v1, v2⟩ := vals_some hv
            have hl1 : l.length = m * t.enc.z := by rw [v1]; simp; omega
            refine ⟨m, ys, _, hs, e2, (fun q => Nat.le_of_ble_eq_true q), fun {w ρ H v} h hH hr => ?_⟩
            have hb := hH _ (by simp [avK1]) _ hb0
            obtain ⟨g, hg, rfl⟩ := hr
            have hl : b.live := Blk.live_of ho hw
            obtain ⟨_, cs, ⟨T', fz, h1, _⟩, hf⟩ := h.blk k g b hg hb hl
            unfold Blk.fit at hf
            rw [hw] at hf
            obtain ⟨f1, f2⟩ := hf
            refine ⟨fun q => ⟨_, _, by rw [← e2, q]⟩, fun q => ⟨g, o, c, cs, T', fz, by rw [e2], by omega, h1, ?_⟩⟩
            rw [e2, e1]
            apply List.ext_getElem?
            intro j
            by_cases hj : j < l.length
            · have := v2 j (by omega)
              rw [lget_take _ _ _ (by omega), lget_drop] at this
              have f3 := f2 (o + j) (by omega)
              rw [this] at f3
              have f3 : cs.getD (o + j) undef = l.getD j undef := f3
              have hj' : o + j < cs.size := by omega
              rw [List.getElem?_take, if_pos (by omega), List.getElem?_drop]
              simp [List.getD, hj, hj'] at f3 ⊢
              exact f3
            · rw [List.getElem?_eq_none (by simp; omega), List.getElem?_eq_none (by omega)]
          · exact hs.elim
      · exact hs.elim
    · exact hs.elim
  · rename_i k n
    split at hs
    · rename_i b hb0
      split at hs
      · rename_i r hw
        cases hm : (isMine b && Nat.beq b.T T) with
        | false => simp [hm] at hs
        | true =>
          simp only [hm, cond_true] at hs
          simp only [Bool.and_eq_true] at hm
          obtain rfl := Nat.eq_of_beq_eq_true hm.2
          obtain ⟨hn, hs⟩ := hs
          obtain ⟨xs, hk, hz, hlen, hv⟩ := srcRow_of hs
          have hnx : n = xs.length := by omega
          subst hnx
          refine ⟨_, xs, false, hk, rfl, (fun q => by cases q), fun {w ρ H v} h hH hr => ?_⟩
          have hb := hH _ (by simp [avK1]) _ hb0
          obtain ⟨b', c, hρ, hc, e⟩ := hr
          refine ⟨fun q => ⟨_, _, by rw [e, q]⟩, fun q => ?_⟩
          obtain ⟨cs, h1, h2⟩ := h.rcells hρ hb (isMine_iff hm.1) hw (fun q' => by rw [q'] at hlen; simp at hlen; omega)
          exact ⟨b', 0, c, cs, _, _, e, hc.2, h1, by rw [List.drop_zero, ← hv, ← h2, ← hz, hlen]⟩
      · exact hs.elim
    · exact hs.elim
  · rename_i k n
    split at hs
    · rename_i b hb0
      split at hs
      · rename_i r hw
        cases hm : (isMine b && Nat.beq b.T T) with
        | false => simp [hm] at hs
        | true =>
          simp only [hm, cond_true] at hs
          simp only [Bool.and_eq_true] at hm
          obtain rfl := Nat.eq_of_beq_eq_true hm.2
          obtain ⟨hn, hs⟩ := hs
          obtain ⟨xs, hk, hz, hlen, hv⟩ := srcRow_of hs
          have hnx : n = xs.length := by omega
          subst hnx
          refine ⟨_, xs, false, hk, rfl, (fun q => by cases q), fun {w ρ H v} h hH hr => ?_⟩
          have hb := hH _ (by simp [avK1]) _ hb0
          refine ⟨fun q => ⟨_, _, hr.1 q⟩, fun q => ?_⟩
          obtain ⟨b', c, hρ, hc, e⟩ := hr.2 q
          obtain ⟨cs, h1, h2⟩ := h.rcells hρ hb (isMine_iff hm.1) hw (fun q' => by rw [q'] at hlen; simp at hlen; omega)
          exact ⟨b', 0, c, cs, _, _, e, hc.2, h1, by rw [List.drop_zero, ← hv, ← h2, ← hz, hlen]⟩
      · exact hs.elim
    · exact hs.elim
  · rename_i k o z n
    split at hs
    · rename_i b hb0
      split at hs
      · rename_i r hw
        cases hm : (isMine b && (Nat.beq b.T T && Nat.beq z r.E.z)) with
        | false => simp [hm] at hs
        | true =>
          simp only [hm, cond_true] at hs
          simp only [Bool.and_eq_true] at hm
          obtain rfl := Nat.eq_of_beq_eq_true hm.2.1
          obtain ⟨xs, ⟨hon, hk⟩, hz, hlen, hv⟩ := srcRow_of hs
          rw [oif] at hk
          have hzz := Nat.eq_of_beq_eq_true hm.2.2
          have hl2 : ((xs.drop o).take n).length = n := by simp; omega
          refine ⟨n, _, false, hk, hl2, (fun q => by cases q), fun {w ρ H v} h hH hr => ?_⟩
          have hb := hH _ (by simp [avK1]) _ hb0
          refine ⟨fun q => hr.1 (by omega), fun q => ?_⟩
          obtain ⟨b', c, hρ, hc, e⟩ := hr.2 (by omega)
          obtain ⟨cs, h1, h2⟩ := h.rcells hρ hb (isMine_iff hm.1) hw (fun q' => by rw [q'] at hlen; simp at hlen; omega)
          refine ⟨b', o * t.enc.z, c, cs, _, _, by rw [hl2, ← hz, ← hzz]; exact e, by omega, h1, ?_⟩
          rw [hl2, ← take_drop_flat hon, ← hv, ← h2, ← hz, hlen]
          rw [List.drop_take, List.take_take]
          congr 1
          have : n * r.E.z ≤ (xs.length - o) * r.E.z := Nat.mul_le_mul_right _ (by omega)
          rw [Nat.sub_mul] at this
          omega
      · exact hs.elim
    · exact hs.elim
  · rename_i k o z n
    split at hs
    · rename_i b hb0
      split at hs
      · rename_i r ho hw
        cases hm : (Nat.beq b.T T && Nat.beq z r.E.z) with
        | false => simp [hm] at hs
        | true =>
          simp only [hm, cond_true] at hs
          simp only [Bool.and_eq_true] at hm
          obtain rfl := Nat.eq_of_beq_eq_true hm.1
          obtain ⟨xs, ⟨hon, hk⟩, hz, hlen, hv⟩ := srcRow_of hs
          rw [oif] at hk
          have hzz := Nat.eq_of_beq_eq_true hm.2
          have hl2 : ((xs.drop o).take n).length = n := by simp; omega
          refine ⟨n, _, false, hk, hl2, (fun q => by cases q), fun {w ρ H v} h hH hr => ?_⟩
          have hb := hH _ (by simp [avK1]) _ hb0
          refine ⟨fun q => hr.1 (by omega), fun q => ?_⟩
          obtain ⟨b', c, off, hρ, hc, e⟩ := hr.2 (by omega)
          obtain ⟨cs, T', fz, h1, h2⟩ := h.fcells hρ hc.1 hb ho hw (fun q' => by rw [q'] at hlen; simp at hlen; omega)
          refine ⟨b', off + o * t.enc.z, c, cs, T', fz, by rw [hl2, ← hz, ← hzz]; exact e, by omega, h1, ?_⟩
          rw [hl2, ← take_drop_flat hon, ← hv, ← h2, ← hz, hlen]
          rw [List.drop_take, List.take_take, List.drop_drop]
          congr 1
          have : n * r.E.z ≤ (xs.length - o) * r.E.z := Nat.mul_le_mul_right _ (by omega)
          rw [Nat.sub_mul] at this
          omega
      · exact hs.elim
    · exact hs.elim
  · exact hs.elim
def destX (hp : List Blk) (e : TypeId) (sz : Nat) (z : Value) (d : AV) (K : (t : ET) → List t.ty → Bool → List Blk → Prop) : Prop :=
  match d with
  | .v (.slice none 0 0) => (match encOf z.cells.toList with | some t => bif Nat.beq t.enc.z sz then K t [] false hp else False | none => False)
  | .rs k n => (match hp[k]? with | some b => (match b.row with | some r => bif isMine b && (Nat.beq b.T e && (Nat.beq r.E.z sz && r.held)) then n = r.xs.length ∧ K r.t r.xs true (bset hp k deadB) else False | none => False) | none => False)
  | .os k n => (match hp[k]? with | some b => (match b.row with | some r => bif isMine b && (Nat.beq b.T e && Nat.beq r.E.z sz) then n = r.xs.length ∧ K r.t r.xs false (bset hp k deadB) else False | none => False) | none => False)
  | .s k o n c =>
    (match hp[k]?, encOf z.cells.toList with
    | some b, some t =>
      (match b.row, vals b.cs with
      | none, some l => bif isMine b && (Nat.beq b.T e && (Nat.beq t.enc.z sz && (Nat.beq o 0 && (Nat.beq n c && (Nat.beq b.cs.length (n * sz) && Nat.ble n maxLen))))) then
          (match decs t.enc n l with | some ys => K t ys true (bset hp k deadB) | none => False) else False
      | _, _ => False)
    | _, _ => False)
  | _ => False
structure DestOk (P : Program) (B : Nat) (w0 w : World) (ρ : Nat → Option Nat) (hp : List Blk) (e : TypeId) (sz : Nat) (v : Value) (t : ET) (xs : List t.ty) (held : Bool) (hp' : List Blk) : Prop where
  len : hp'.length = hp.length
  z : t.enc.z = sz
  own : w.ownsRow B e sz v xs.length (xs.flatMap t.enc.enc)
  rel : Rel B w0 ρ (hpF hp') w
  base : ∀ g, v.ownBlock = some g → B ≤ g
  free : ∀ j g x, v.ownBlock = some g → ρ j = some g → hpF hp' j = some x → ¬ x.live
  notnil : held = true → v ≠ .slice none 0 0
  nil : held = false → xs.length = 0 → v = .slice none 0 0
theorem free_of {hp : List Blk} (h : Rel B w0 ρ (hpF hp) w) {k g : Nat} {b : Blk} (hb : hp[k]? = some b) (hl : b.live) (ho : b.own = some true) (hρ : ρ k = some g) :
    ∀ j x, ρ j = some g → hpF (bset hp k deadB) j = some x → ¬ x.live := fun j x p2 p3 p4 => by
  rw [hpF_bset hp hb] at p3
  unfold upd at p3
  by_cases hj : j = k
  · rw [if_pos hj] at p3
    cases p3
    exact p4.1 rfl
  · rw [if_neg hj] at p3
    exact hj (h.inj j k g x b p2 hρ p3 hb p4 hl ho)
theorem destX_run {hp : List Blk} (h : Rel B w0 ρ (hpF hp) w) {e : TypeId} {sz : Nat} {z : Value} {d : AV} {v : Value} {K : (t : ET) → List t.ty → Bool → List Blk → Prop} (hr : d.R ρ v) (hd : destX hp e sz z d K) :
    ∃ t xs held hp', K t xs held hp' ∧ DestOk P B w0 w ρ hp e sz v t xs held hp' := by
  unfold destX at hd
  split at hd
  · have hr : v = .slice none 0 0 := hr
    subst hr
    split at hd
    · rename_i t _
      cases hz : Nat.beq t.enc.z sz with
      | false => simp [hz] at hd
      | true =>
        simp only [hz, cond_true] at hd
        exact ⟨t, [], false, hp, hd, rfl, Nat.eq_of_beq_eq_true hz, w.ownsRow_nil B e sz, h, fun g hg => (by cases hg), fun j g x q => (by cases q), (fun q => by cases q), fun _ _ => rfl⟩
    · exact hd.elim
  · rename_i k n
    split at hd
    · rename_i b hb
      split at hd
      · rename_i r hw
        cases hs : (isMine b && (Nat.beq b.T e && (Nat.beq r.E.z sz && r.held))) with
        | false => simp [hs] at hd
        | true =>
          simp only [hs, cond_true] at hd
          simp only [Bool.and_eq_true] at hs
          obtain ⟨q1, q2, q3, q4⟩ := hs
          have q1 := isMine_iff q1
          have q2 := Nat.eq_of_beq_eq_true q2
          have q3 := Nat.eq_of_beq_eq_true q3
          obtain ⟨rfl, hd⟩ := hd
          obtain ⟨hown, hblk⟩ := h.owns (k := k) (b := b) (r := r) hb q1 hw (v := v) (a := AV.rs k r.xs.length) (.inl ⟨rfl, .inl q4⟩) hr
          have hkill := h.kill (k := k) (b := b) hb
          rw [← hpF_bset hp hb] at hkill
          subst q2
          have q3' : r.t.enc.z = sz := q3
          subst q3'
          have hl : b.live := ⟨by rw [q1]; simp, fun r' e' => by rw [hw] at e'; cases e'; exact .inl q4⟩
          refine ⟨r.t, r.xs, true, _, hd, bset_length _ _ _, rfl, hown, hkill, fun g hg => (hblk g hg).1, fun j g x p1 p2 p3 => free_of h hb hl q1 (hblk g p1).2 j x p2 p3, fun _ e => ?_, fun q => by cases q⟩
          obtain ⟨m, c, _, _, e'⟩ := hr
          rw [e] at e'
          cases e'
      · exact hd.elim
    · exact hd.elim
  · rename_i k n
    split at hd
    · rename_i b hb
      split at hd
      · rename_i r hw
        cases hs : (isMine b && (Nat.beq b.T e && Nat.beq r.E.z sz)) with
        | false => simp [hs] at hd
        | true =>
          simp only [hs, cond_true] at hd
          simp only [Bool.and_eq_true] at hs
          obtain ⟨q1, q2, q3⟩ := hs
          have q1 := isMine_iff q1
          have q2 := Nat.eq_of_beq_eq_true q2
          have q3 := Nat.eq_of_beq_eq_true q3
          obtain ⟨rfl, hd⟩ := hd
          obtain ⟨hown, hblk⟩ := h.owns (k := k) (b := b) (r := r) hb q1 hw (v := v) (a := AV.os k r.xs.length) (.inr rfl) hr
          have hkill := h.kill (k := k) (b := b) hb
          rw [← hpF_bset hp hb] at hkill
          subst q2
          have q3' : r.t.enc.z = sz := q3
          subst q3'
          have hr' : (AV.os k r.xs.length).R ρ v := hr
          refine ⟨r.t, r.xs, false, _, hd, bset_length _ _ _, rfl, hown, hkill, fun g hg => (hblk g hg).1, fun j g x p1 p2 p3 => ?_, (fun q => by cases q), fun _ q => hr'.1 q⟩
          have hl : b.live := ⟨by rw [q1]; simp, fun r' e' => by
            rw [hw] at e'
            cases e'
            refine .inr (fun e0 => ?_)
            rw [hr'.1 (by rw [e0]; rfl)] at p1
            cases p1⟩
          exact free_of h hb hl q1 (hblk g p1).2 j x p2 p3
      · exact hd.elim
    · exact hd.elim
  · rename_i k o n c
    split at hd
    · rename_i b t hb _
      split at hd
      · rename_i l hw hv
        cases hs : (isMine b && (Nat.beq b.T e && (Nat.beq t.enc.z sz && (Nat.beq o 0 && (Nat.beq n c && (Nat.beq b.cs.length (n * sz) && Nat.ble n maxLen)))))) with
        | false => simp [hs] at hd
        | true =>
          simp only [hs, cond_true] at hd
          simp only [Bool.and_eq_true] at hs
          obtain ⟨q1, q2, q3, q4, q5, q6, q7⟩ := hs
          have q1 := isMine_iff q1
          obtain rfl := Nat.eq_of_beq_eq_true q2
          obtain rfl := Nat.eq_of_beq_eq_true q3
          obtain rfl := Nat.eq_of_beq_eq_true q4
          obtain rfl := Nat.eq_of_beq_eq_true q5
          have q6 := Nat.eq_of_beq_eq_true q6
          have q7 := Nat.le_of_ble_eq_true q7
          split at hd
          · rename_i ys hy
            obtain ⟨e1, e2⟩ := decs_back hy
            obtain ⟨g, hg, rfl⟩ := hr
            have hl : b.live := Blk.live_of q1 hw
            obtain ⟨h0, cs, hL, hf⟩ := h.blk k g b hg hb hl
            have h1 := hL.own q1
            have h0 : B ≤ g := h0 q1
            unfold Blk.fit at hf
            rw [hw] at hf
            obtain ⟨f1, f2⟩ := hf
            obtain ⟨v1, v2⟩ := vals_some hv
            have hsz : cs.toList.length = l.length := by rw [Array.length_toList]; omega
            have hcs : cs.toList = l := by
              apply List.ext_getElem?
              intro j
              by_cases hj : j < l.length
              · have := f2 j (by omega)
                rw [v2 j (by omega)] at this
                have this : cs.getD j undef = l.getD j undef := this
                have hj' : j < cs.size := by omega
                simp [List.getD, hj, hj'] at this ⊢
                exact this
              · rw [List.getElem?_eq_none (by omega), List.getElem?_eq_none (by omega)]
            have hkill := h.kill (k := k) (b := b) hb
            rw [← hpF_bset hp hb] at hkill
            subst e2
            have hown : w.ownsRow B b.T t.enc.z (.slice (some ⟨g, 0, none⟩) ys.length ys.length) ys.length (ys.flatMap t.enc.enc) :=
              ⟨by rw [e1]; omega, .inr ⟨g, ys.length, cs, rfl, h0, h1, Nat.le_refl _, q7, by omega, by rw [e1, hcs]; exact List.take_of_length_le (by omega)⟩⟩
            exact ⟨t, ys, true, _, hd, { len := bset_length _ _ _, z := rfl, own := hown, rel := hkill, base := fun g' hg' => (by cases hg'; exact h0), free := fun j g' x p1 p2 p3 => (by cases p1; exact free_of h hb hl q1 hg j x p2 p3), notnil := fun _ e => (by cases e), nil := fun q => (by cases q) }⟩
          · exact hd.elim
      · exact hd.elim
    · exact hd.elim
  · exact hd.elim
theorem flat_length (t : ET) : ∀ (xs : List t.ty), (xs.flatMap t.enc.enc).length = xs.length * t.enc.z
  | [] => by simp
  | x :: xs => by rw [List.flatMap_cons, List.length_append, t.enc.len, flat_length t xs, List.length_cons, Nat.add_mul]; omega
theorem run_append_zero (w : World) (base : Nat) (t ty e : TypeId) (i : TypeInfo) (size : Nat) (ht : P.underlying t = some (.slice e)) (hi : P.info? e = some i)
    (v : Value) (n : Nat) (xs : List Value) (hown : w.ownsRow base e size v n xs) (a : Option Addr) (c : Nat) :
    (Builtin.append_ #[t, t] ty #[v, .slice a 0 c]).run P w = .ok v w := by
  rcases hown.2 with ⟨rfl, rfl⟩ | ⟨g, cap, cur, rfl, _, _, hnc, _⟩
  · cases a <;> simp [Builtin.append_, run_underlying ht, sizeOf, typeInfo, hi, Builtin.lenOf, Builtin.firstCells, loadCells, loadCellsFrom]
  · cases a <;> simp [Builtin.append_, run_underlying ht, sizeOf, typeInfo, hi, Builtin.lenOf, Builtin.firstCells, hnc, storeCells, loadCells, loadCellsFrom]
def appRes (hp : List Blk) (e : TypeId) (t : ET) (zs : List t.ty) (n : Nat) (sure : Bool) (K : AV → List Blk → Prop) : Prop :=
  K (bif sure then .rs hp.length n else .os hp.length n) (hp ++ [⟨e, [], some true, some ⟨t, zs, sure⟩⟩, deadB])
def appX2 (P : Program) (ts : List TypeId) (args : List AV) (hp : List Blk) (K : AV → List Blk → Prop) : Prop :=
  match ts, args with
  | [t, t'], [d, s] =>
    match bif Nat.beq t t' then elemOf P t else none with
    | some (e, i, z) =>
      bif Nat.blt 0 i.size && Nat.beq z.cells.size i.size then
        destX hp e i.size z d fun t xs held hp' => srcY hp e t s fun m ys pos =>
          bcase (capOk (xs.length + m) i.bytes) (appRes hp' e t (xs ++ ys) (xs.length + m) (held || pos) K) False
      else False
    | none => False
  | _, _ => False
theorem appX2_run {hp : List Blk} (h : Rel B w0 ρ (hpF hp) w) {ts : Array TypeId} {args : List AV} {vs : List Value} (hr : RL ρ args vs) (ty : TypeId) (cs : Array Bool) {K : AV → List Blk → Prop} (ha : appX2 P ts.toList args hp K) :
    ∃ av hp' w' ρ' v', Ext ρ ρ' ∧ Rel B w0 ρ' (hpF hp') w' ∧ av.R ρ' v' ∧ K av hp' ∧ (builtin .append ts ty cs vs.toArray).run P w = .ok (.value v') w' := by
  unfold appX2 at ha
  split at ha
  · rename_i t t' d s hts
    have hts : ts = #[t, t'] := Array.ext' hts
    subst hts
    cases htt : Nat.beq t t' with
    | false => simp [htt] at ha
    | true =>
      have htt' := Nat.eq_of_beq_eq_true htt
      subst htt'
      simp only [htt, cond_true] at ha
      split at ha
      · rename_i e i z he
        cases hg : (Nat.blt 0 i.size && Nat.beq z.cells.size i.size) with
        | false => simp [hg] at ha
        | true =>
          simp only [hg, cond_true] at ha
          simp only [Bool.and_eq_true] at hg
          have g2 : 0 < i.size := Nat.le_of_ble_eq_true hg.1
          have g3 := Nat.eq_of_beq_eq_true hg.2
          match vs, hr with
          | [dv, sv], hr =>
            obtain ⟨hd, hs', _⟩ := hr
            obtain ⟨te, xs, held, hp', ha, D⟩ := destX_run (P := P) h hd ha
            obtain ⟨m, ys, pos, ha, hym, hpos, hH0⟩ := srcY_run (B := B) (w0 := w0) ha
            have hH := hH0 h (fun _ _ _ q => q) hs'
            obtain ⟨hcap, ha⟩ := capOk_1 ha
            unfold appRes at ha
            obtain ⟨dlen, dz, down, drel, dbase, dfree, dnn, dnil⟩ := D
            have dz' : i.size = te.enc.z := dz.symm
            rw [dz'] at down
            have hlen' : (xs ++ ys).length = xs.length + m := by rw [List.length_append, hym]
            have hval : Row.vals ⟨te, xs ++ ys, held || pos⟩ = xs.flatMap te.enc.enc ++ ys.flatMap te.enc.enc := List.flatMap_append
            by_cases hm : m = 0
            · obtain ⟨a0, c0, rfl⟩ := hH.zero (by omega)
              subst hm
              have hy0 : ys = [] := List.eq_nil_of_length_eq_zero hym
              subst hy0
              have hp0 : pos = false := by
                cases pos with
                | false => rfl
                | true => have := hpos rfl; omega
              subst hp0
              have he' := he
              unfold elemOf at he'
              split at he'
              · rename_i e' hu
                split at he'
                · rename_i i' hi
                  split at he'
                  · rename_i z' hz'
                    cases he'
                    have hrun : (builtin .append #[t, t] ty cs [dv, .slice a0 0 c0].toArray).run P w = .ok (.value dv) w := by
                      unfold builtin
                      have := run_append_zero (P := P) w B t ty e _ te.enc.z hu hi dv xs.length _ down a0 c0
                      simp only [Sem.run_bind]
                      rw [this]
                      rfl
                    simp only [List.append_nil, Nat.add_zero, Bool.or_false] at ha
                    by_cases hnil : dv = .slice none 0 0
                    · have hf : held = false := by
                        cases held with
                        | false => rfl
                        | true => exact absurd hnil (dnn rfl)
                      subst hf
                      have hx0 : xs.length = 0 := by
                        rcases down.2 with ⟨_, q⟩ | ⟨g, cap, cur, q, _⟩
                        · exact q
                        · rw [q] at hnil; cases hnil
                      have hxs : xs = [] := List.eq_nil_of_length_eq_zero hx0
                      have hN := drel.note (k := hp'.length + 1) (by simp [hpF]) 0
                      have hk' : upd (hpF hp') (hp'.length + 1) deadB hp'.length = none := by unfold upd; rw [if_neg (by omega)]; exact hpF_none _
                      have hN2 := hN.noteB (k := hp'.length) hk' 0 (b := ⟨e, [], some true, some ⟨te, xs, false⟩⟩) (fun l => by
                        rcases l.2 _ rfl with q | q
                        · cases q
                        · exact q hxs)
                      have hext := (Ext.new (drel.dom (hp'.length + 1) (by simp [hpF])) 0).trans (Ext.new (hN.dom _ hk') 0)
                      exact ⟨.os hp'.length xs.length, hp' ++ [⟨e, [], some true, some ⟨te, xs, false⟩⟩, deadB], w, _, dv, hext, by rw [hpF_new2]; exact hN2, ⟨fun _ => hnil, fun q => absurd hx0 q⟩, ha, hrun⟩
                    · have hr0 : Row.vals ⟨te, xs, held⟩ = xs.flatMap te.enc.enc := rfl
                      obtain ⟨ρ', h1', h2', h3'⟩ := drel.addRow (k := hp'.length) (hpF_none hp') (by simp [hpF]) (T := e) (r := ⟨te, xs, held⟩) hnil down dfree
                      refine ⟨_, _, w, ρ', dv, h1', by rw [hpF_new2]; exact h2', ?_, ha, hrun⟩
                      cases held with
                      | true => exact h3'
                      | false =>
                        obtain ⟨m, c, q1, q2, q3⟩ := h3'
                        exact ⟨fun q => absurd (dnil rfl q) hnil, fun _ => ⟨m, c, q1, q2, q3⟩⟩
                  · cases he'
                · cases he'
              · cases he'
            · obtain ⟨ad, c, rfl, hc⟩ := hH.cells (by omega)
              rw [hym]
              have hyl : (ys.flatMap te.enc.enc).length = m * i.size := by
                rw [flat_length, hym, dz]
              obtain ⟨w', ρ', v', a1, a2, a3, a4⟩ := app_run (P := P) he g2 g3 drel (by rw [dz']; exact down) dbase dfree (by omega) hyl hc (r := ⟨te, xs ++ ys, held || pos⟩) dz hlen' hval hcap ty cs
              refine ⟨_, _, w', ρ', v', a1, a2, ?_, ha, a4⟩
              cases hq : (held || pos) with
              | true => exact a3
              | false =>
                obtain ⟨m', c', q1, q2, q3⟩ := a3
                exact ⟨fun q => by omega, fun _ => ⟨m', c', q1, q2, q3⟩⟩
      · exact ha.elim
  · exact ha.elim
/-! The caller: its values as arguments. -/
def etOf (P : Program) (e : TypeId) : Option ET := match P.info? e with | some i => (match i.zero with | some z => encOf z.cells.toList | none => none) | none => none
def named {α : Type} (b : Bool) (x : List α) (K : List α → Prop) : Prop := bif b then ∀ z, z = x → K z else K x
theorem named_of {α : Type} {b : Bool} {x : List α} {K : List α → Prop} (h : named b x K) : K x := by
  unfold named at h
  cases b with
  | true => exact h x rfl
  | false => exact h
def isNew : AV → Bool
  | .ps _ _ _ _ | .sl _ _ _ _ | .rs _ _ | .os _ _ => true
  | _ => false
def cdIn (P : Program) (hp : List Blk) (ty : TypeId) (a : AV) (K : CD → Prop) : Prop :=
  match P.underlying ty with
  | some (.slice e) => (match etOf P e with | some t => srcY hp e t a (fun _ ys _ => named (isNew a) ys fun zs => K (.r e t zs)) | none => False)
  | _ => match a with | .v x => K (.v x) | _ => False
theorem cdIn_run {hp : List Blk} {ty : TypeId} {a : AV} {K : CD → Prop} (hc : cdIn P hp ty a K) :
    ∃ c, K c ∧ ∀ {w : World} {ρ : Nat → Option Nat} {H : Nat → Option Blk} {v : Value}, Rel B w0 ρ H w → (∀ k ∈ avK1 a, ∀ b, hp[k]? = some b → H k = some b) → a.R ρ v → CDR w c v := by
  unfold cdIn at hc
  split at hc
  · split at hc
    · obtain ⟨m, ys, pos, hk, _, _, hh⟩ := srcY_run (B := B) (w0 := w0) hc
      exact ⟨_, named_of hk, fun h hH hr => hh h hH hr⟩
    · exact hc.elim
  · split at hc
    · exact ⟨_, hc, fun h hH hr => hr⟩
    · exact hc.elim
def cdsIn (P : Program) (hp : List Blk) : List TypeId → List AV → (List CD → Prop) → Prop
  | [], [], K => K []
  | t :: ts, a :: as, K => cdIn P hp t a fun c => cdsIn P hp ts as fun cs => K (c :: cs)
  | _, _, _ => False
theorem cdsIn_run {hp : List Blk} : ∀ {ts : List TypeId} {as : List AV} {K : List CD → Prop}, cdsIn P hp ts as K →
    ∃ cs, K cs ∧ cs.length = as.length ∧ ∀ {w : World} {ρ : Nat → Option Nat} {H : Nat → Option Blk} {vs : List Value}, Rel B w0 ρ H w → (∀ k ∈ as.flatMap avK1, ∀ b, hp[k]? = some b → H k = some b) → RL0 ρ as vs → CDRs w cs vs
  | [], [], K, hc => ⟨[], hc, rfl, fun {w ρ H vs} _ _ hr => by cases vs with | nil => trivial | cons => exact hr.elim⟩
  | t :: ts, a :: as, K, hc => by
    obtain ⟨c, hc, h1⟩ := cdIn_run (B := B) (w0 := w0) hc
    obtain ⟨cs, hk, h2, h3⟩ := cdsIn_run hc
    refine ⟨_, hk, by simp [h2], fun {w ρ H vs} h hH hr => ?_⟩
    cases vs with
    | nil => exact hr.elim
    | cons v vs => exact ⟨h1 h (fun k hk => hH k (by simp [hk])) (AV.R0_R hr.1), h3 h (fun k hk => hH k (by rw [List.flatMap_cons]; exact List.mem_append_right _ hk)) hr.2⟩
  | [], _ :: _, _, hc => hc.elim
  | _ :: _, [], _, hc => hc.elim
def isSl (P : Program) (t : TypeId) : Bool := match P.underlying t with | some (.slice _) => true | _ => false
def slTys (P : Program) (ty : TypeId) : Option (List TypeId) :=
  match P.underlying ty with
  | some (.struct fs) => bif fs.toList.any (fun f => isSl P f.type) then some (fs.toList.map (·.type)) else none
  | _ => none
def cellsAV : AV → Option (List AV)
  | .ag l => some l
  | .v (.agg cs) => some (cs.toList.map .v)
  | _ => none
theorem cellsAV_run {a : AV} {l : List AV} {v : Value} (h : cellsAV a = some l) (hr : a.R ρ v) : ∃ us, v = .agg us.toArray ∧ RL0 ρ l us := by
  unfold cellsAV at h
  split at h
  · cases h; exact hr
  · rename_i cs
    cases h
    have hr : v = .agg cs := hr
    subst hr
    refine ⟨cs.toList, by simp, RL0.of (by simp) fun i hi => ?_⟩
    rw [lget_map _ _ (by simpa using hi)]
    exact rfl
  · cases h
def adsIn (P : Program) (hp : List Blk) : List TypeId → List AV → (List AD → List AV → Prop) → Prop
  | [], [], K => K [] []
  | t :: ts, a :: as, K =>
    match slTys P t with
    | some tys => (match cellsAV a with | some l => cdsIn P hp tys l fun cs => adsIn P hp ts as fun ads ins => K (.agg cs :: ads) (l ++ ins) | none => False)
    | none => cdIn P hp t a fun c => adsIn P hp ts as fun ads ins => K (.one c :: ads) (a :: ins)
  | _, _, _ => False
theorem CDRs.app {w : World} : ∀ {a b : List CD} {u v : List Value}, CDRs w a u → CDRs w b v → CDRs w (a ++ b) (u ++ v)
  | [], _, [], _, _, h => h
  | _ :: _, _, _ :: _, _, h, k => ⟨h.1, CDRs.app h.2 k⟩
  | [], _, _ :: _, _, h, _ => h.elim
  | _ :: _, _, [], _, h, _ => h.elim
theorem RL0.app {ρ : Nat → Option Nat} : ∀ {a b : List AV} {u v : List Value}, RL0 ρ a u → RL0 ρ b v → RL0 ρ (a ++ b) (u ++ v)
  | [], _, [], _, _, h => h
  | _ :: _, _, _ :: _, _, h, k => ⟨h.1, RL0.app h.2 k⟩
  | [], _, _ :: _, _, h, _ => h.elim
  | _ :: _, _, [], _, h, _ => h.elim
def weak1 : AV → AV
  | .ag _ | .tu _ => .any
  | a => a
theorem weak1_R {a : AV} {v : Value} (h : a.R ρ v) : (weak1 a).R0 ρ v := by
  cases a <;> first | exact h | trivial
theorem cellsAV_K {a : AV} {l : List AV} (h : cellsAV a = some l) : ∀ k ∈ l.flatMap avK1, k ∈ avK a := by
  unfold cellsAV at h
  split at h
  · cases h; exact fun k hk => hk
  · rename_i cs
    cases h
    intro k hk
    obtain ⟨x, hx, hk⟩ := List.mem_flatMap.1 hk
    obtain ⟨y, _, rfl⟩ := List.mem_map.1 hx
    cases hk
  · cases h
theorem weak1s {ρ : Nat → Option Nat} : ∀ {l : List AV} {us : List Value}, RL0 ρ l us → RL0 ρ (l.map weak1) us
  | [], [], _ => trivial
  | _ :: _, _ :: _, h => ⟨weak1_R (AV.R0_R h.1), weak1s h.2⟩
  | [], _ :: _, h => h.elim
  | _ :: _, [], h => h.elim
theorem adsIn_run {hp : List Blk} : ∀ {ts : List TypeId} {as : List AV} {K : List AD → List AV → Prop}, adsIn P hp ts as K →
    ∃ ads ins, K ads ins ∧ ∀ {w : World} {ρ : Nat → Option Nat} {H : Nat → Option Blk} {vs : List Value}, Rel B w0 ρ H w → (∀ k ∈ as.flatMap avK, ∀ b, hp[k]? = some b → H k = some b) → RL ρ as vs →
      ∃ cells, ADSh ads vs cells ∧ CDRs w (flatCD ads) cells ∧ RL0 ρ (ins.map weak1) cells
  | [], [], K, hc => ⟨[], [], hc, fun {w ρ H vs} _ _ hr => by cases vs with | nil => exact ⟨[], rfl, trivial, trivial⟩ | cons => exact hr.elim⟩
  | t :: ts, a :: as, K, hc => by
    unfold adsIn at hc
    split at hc
    · split at hc
      · rename_i tys _ l hl
        obtain ⟨cs, hc, h2, h1⟩ := cdsIn_run (B := B) (w0 := w0) hc
        obtain ⟨ads, ins, hk, q⟩ := adsIn_run hc
        refine ⟨_, _, hk, fun {w ρ H vs} h hH hr => ?_⟩
        cases vs with
        | nil => exact hr.elim
        | cons v vs =>
          obtain ⟨us, e, hu⟩ := cellsAV_run hl hr.1
          obtain ⟨cells, q1, q2, q3⟩ := q h (fun k hk => hH k (by rw [List.flatMap_cons]; exact List.mem_append_right _ hk)) hr.2
          have hc1 := h1 h (fun k hk => hH k (by rw [List.flatMap_cons]; exact List.mem_append_left _ (cellsAV_K hl k hk))) hu
          refine ⟨us ++ cells, ⟨us, cells, e, by rw [h2, hu.length], rfl, q1⟩, hc1.app q2, ?_⟩
          rw [List.map_append]
          exact (weak1s hu).app q3
      · exact hc.elim
    · obtain ⟨c, hc, h1⟩ := cdIn_run (B := B) (w0 := w0) hc
      obtain ⟨ads, ins, hk, q⟩ := adsIn_run hc
      refine ⟨_, _, hk, fun {w ρ H vs} h hH hr => ?_⟩
      cases vs with
      | nil => exact hr.elim
      | cons v vs =>
        obtain ⟨cells, q1, q2, q3⟩ := q h (fun k hk => hH k (by rw [List.flatMap_cons]; exact List.mem_append_right _ hk)) hr.2
        exact ⟨v :: cells, ⟨cells, rfl, q1⟩, ⟨h1 h (fun k hk => hH k (by
          rw [List.flatMap_cons]
          refine List.mem_append_left _ ?_
          cases a <;> first | exact hk | cases hk)) hr.1, q2⟩, ⟨weak1_R hr.1, q3⟩⟩
  | [], _ :: _, _, hc => hc.elim
  | _ :: _, [], _, hc => hc.elim
/-! The caller: the answers as its values. -/
def weakS (hp : List Blk) : AV → Option AV
  | .rs k n | .os k n => (match hp[k]? with | some b => (match b.row with | some r => some (.ps k 0 r.E.z n) | none => none) | none => none)
  | .ps k o z n => some (.ps k o z n)
  | .sl k o z n => some (.sl k o z n)
  | .v (.slice none 0 0) => some (.ps 0 0 1 0)
  | _ => none
theorem same_empty {u v : Value} {a : Option Addr} {c : Nat} (e : u = .slice a 0 c) (hs : SameSl u v) : ∃ a c, v = .slice a 0 c := by
  obtain ⟨n, a1, a2, c1, c2, e1, e2, h⟩ := hs
  rw [e] at e1
  cases e1
  exact ⟨_, _, e2⟩
theorem same_some {u v : Value} {a : Option Addr} {n c : Nat} (e : u = .slice a n c) (h0 : n ≠ 0) (hs : SameSl u v) : ∃ c', n ≤ c' ∧ v = .slice a n c' := by
  obtain ⟨n', a1, a2, c1, c2, e1, e2, h⟩ := hs
  rw [e] at e1
  cases e1
  obtain ⟨q1, q2⟩ := h h0
  exact ⟨_, q2, by rw [e2, q1]⟩
theorem weakS_run {hp : List Blk} {a b : AV} {u v : Value} (h : weakS hp a = some b) (hr : a.R0 ρ u) (hs : SameSl u v) : b.R0 ρ v := by
  unfold weakS at h
  split at h
  · rename_i k m
    split at h
    · split at h
      · rename_i r _
        cases h
        obtain ⟨b, c, h1, h2, e⟩ := hr
        refine ⟨fun q => by subst q; exact same_empty e hs, fun q => ?_⟩
        obtain ⟨c', q1, q2⟩ := same_some e q hs
        exact ⟨b, c', h1, q1, by rw [Nat.zero_mul]; exact q2⟩
      · cases h
    · cases h
  · rename_i k m
    split at h
    · split at h
      · rename_i r _
        cases h
        refine ⟨fun q => same_empty (hr.1 q) hs, fun q => ?_⟩
        obtain ⟨b, c, h1, h2, e⟩ := hr.2 q
        obtain ⟨c', q1, q2⟩ := same_some e q hs
        exact ⟨b, c', h1, q1, by rw [Nat.zero_mul]; exact q2⟩
      · cases h
    · cases h
  · rename_i k o z n
    cases h
    refine ⟨fun q => ?_, fun q => ?_⟩
    · obtain ⟨a, c, e⟩ := hr.1 q
      exact same_empty e hs
    · obtain ⟨b, c, h1, h2, e⟩ := hr.2 q
      obtain ⟨c', q1, q2⟩ := same_some e q hs
      exact ⟨b, c', h1, q1, q2⟩
  · rename_i k o z n
    cases h
    refine ⟨fun q => ?_, fun q => ?_⟩
    · obtain ⟨a, c, e⟩ := hr.1 q
      exact same_empty e hs
    · obtain ⟨b, c, off, h1, h2, e⟩ := hr.2 q
      obtain ⟨c', q1, q2⟩ := same_some e q hs
      exact ⟨b, c', off, h1, ⟨h2.1, q1⟩, q2⟩
  · cases h
    have hr : u = .slice none 0 0 := hr
    exact ⟨fun _ => same_empty hr hs, fun q => absurd rfl q⟩
  · cases h
theorem weakS_weak1 {hp : List Blk} {a b : AV} (h : weakS hp a = some b) : weakS hp (weak1 a) = some b := by
  cases a <;> first | exact h | (simp [weakS] at h)
def cellRes (hp : List Blk) (ins : List AV) (n : Nat) : CD → Option (AV × List Blk)
  | .v x => some (.v x, [])
  | .r T t zs => some (.ps n 0 t.enc.z zs.length, [⟨T, [], some true, some ⟨t, zs, false⟩⟩, deadB])
  | .same j => match ins[j]? with | some a => (match weakS hp a with | some b => some (b, []) | none => none) | none => none
def cellsRes (hp : List Blk) (ins : List AV) : Nat → List CD → Option (List AV × List Blk)
  | _, [] => some ([], [])
  | n, c :: cs => match cellRes hp ins n c with | some (a, l) => (match cellsRes hp ins (n + l.length) cs with | some (as, r) => some (a :: as, l ++ r) | none => none) | none => none
def updL (H : Nat → Option Blk) (n : Nat) (l : List Blk) : Nat → Option Blk := fun i => if n ≤ i ∧ i < n + l.length then l[i - n]? else H i
theorem updL_nil (H : Nat → Option Blk) (n : Nat) : updL H n [] = H := by funext i; unfold updL; rw [if_neg (by simp)]
theorem updL_app (H : Nat → Option Blk) (n : Nat) (a b : List Blk) : updL H n (a ++ b) = updL (updL H n a) (n + a.length) b := by
  funext i
  unfold updL
  by_cases h1 : n ≤ i ∧ i < n + a.length
  · rw [if_pos ⟨h1.1, by rw [List.length_append]; omega⟩, if_neg (by omega), if_pos h1, List.getElem?_append_left (by omega)]
  · by_cases h2 : n + a.length ≤ i ∧ i < n + a.length + b.length
    · rw [if_pos ⟨by omega, by rw [List.length_append]; omega⟩, if_pos h2, List.getElem?_append_right (by omega)]
      congr 1
      omega
    · rw [if_neg (by rw [List.length_append]; omega), if_neg h2, if_neg h1]
theorem updL_two (H : Nat → Option Blk) (n : Nat) (x y : Blk) : updL H n [x, y] = upd (upd H (n + 1) y) n x := by
  funext i
  unfold updL upd
  by_cases h1 : i = n
  · subst h1; simp
  · by_cases h2 : i = n + 1
    · subst h2; simp
    · rw [if_neg (by simp; omega), if_neg h1, if_neg h2]
theorem hpF_updL (hp l : List Blk) : hpF (hp ++ l) = updL (hpF hp) hp.length l := by
  funext i
  unfold hpF updL
  by_cases h1 : hp.length ≤ i ∧ i < hp.length + l.length
  · rw [if_pos h1, List.getElem?_append_right h1.1]
  · rw [if_neg h1]
    rcases Nat.lt_or_ge i hp.length with q | q
    · rw [List.getElem?_append_left q]
    · show (hp ++ l)[i]? = hp[i]?
      rw [List.getElem?_eq_none (by simp; omega), List.getElem?_eq_none q]
theorem Rel.newRow {H : Nat → Option Blk} {n : Nat} (h : Rel B w0 ρ H w) (h0 : H n = none) (h1 : H (n + 1) = none) {T : TypeId} {t : ET} {zs : List t.ty} {v : Value} {g : Nat} (hn : NewRow B w T t zs v g) (hz : zs.length ≠ 0) (hfree : ∀ i x, ρ i = some g → H i = some x → ¬ x.live) :
    ∃ ρ', Ext ρ ρ' ∧ Rel B w0 ρ' (updL H n [⟨T, [], some true, some ⟨t, zs, false⟩⟩, deadB]) w ∧ (AV.ps n 0 t.enc.z zs.length).R0 ρ' v ∧ (∀ i m, ρ' i = some m → (i ≠ n ∧ ρ i = some m) ∨ (i = n ∧ m = g) ∨ i = n + 1) := by
  obtain ⟨hB, c, cap, cs, e, hc, hh, q1, q2, q3, q4⟩ := hn
  have hd1 : ρ (n + 1) = none := h.dom _ h1
  have e1 := Ext.new hd1 cap
  have hN := h.note (k := n + 1) h1 cap
  have hk' : upd H (n + 1) deadB n = none := by unfold upd; rw [if_neg (by omega)]; exact h0
  have hr1 : rnew ρ (n + 1) cap (n + 1) = some cap := by unfold rnew; rw [if_pos rfl]
  have hA := hN.add hk' (b := ⟨T, [], some true, some ⟨t, zs, false⟩⟩) rfl (m := g) (cs := cs) hB (fun i x hi hx => by
    unfold rnew at hi
    unfold upd at hx
    by_cases q : i = n + 1
    · rw [if_pos q] at hx; cases hx; exact fun l => l.1 rfl
    · rw [if_neg q] at hi hx; exact hfree i x hi hx) hh ⟨cap, hr1, q1, q2, q3, q4⟩
  have hg : rnew (rnew ρ (n + 1) cap) n g n = some g := by unfold rnew; rw [if_pos rfl]
  refine ⟨_, e1.trans (Ext.new (hN.dom _ hk') g), by rw [updL_two]; exact hA, ⟨fun q => absurd q hz, fun _ => ⟨g, c, hg, hc, by rw [Nat.zero_mul]; exact e⟩⟩, fun i m hi => ?_⟩
  unfold rnew at hi
  by_cases q : i = n
  · rw [if_pos q] at hi; cases hi; exact .inr (.inl ⟨q, rfl⟩)
  · rw [if_neg q] at hi
    by_cases q2 : i = n + 1
    · exact .inr (.inr q2)
    · rw [if_neg q2] at hi; exact .inl ⟨q, hi⟩
theorem Rel.noRow {H : Nat → Option Blk} {n : Nat} (h : Rel B w0 ρ H w) (h0 : H n = none) (h1 : H (n + 1) = none) {b : Blk} (hb : ¬ b.live) : ∃ ρ', Ext ρ ρ' ∧ Rel B w0 ρ' (updL H n [b, deadB]) w ∧ (∀ i m, ρ' i = some m → (i ≠ n ∧ ρ i = some m) ∨ i = n ∨ i = n + 1) := by
  have hN := h.note (k := n + 1) h1 0
  have hk' : upd H (n + 1) deadB n = none := by unfold upd; rw [if_neg (by omega)]; exact h0
  have hN2 := hN.noteB (k := n) hk' 0 (b := b) hb
  refine ⟨_, (Ext.new (h.dom (n + 1) h1) 0).trans (Ext.new (hN.dom _ hk') 0), by rw [updL_two]; exact hN2, fun i m hi => ?_⟩
  unfold rnew at hi
  by_cases q : i = n
  · exact .inr (.inl q)
  · rw [if_neg q] at hi
    by_cases q2 : i = n + 1
    · exact .inr (.inr q2)
    · rw [if_neg q2] at hi; exact .inl ⟨q, hi⟩
theorem cellsRes_run {hp : List Blk} {ins : List AV} {cells : List Value} {B' : Nat} (hB : B ≤ B') : ∀ {cs : List CD} {vs : List Value} {gs : List Nat} {H : Nat → Option Blk} {n : Nat} {ρ : Nat → Option Nat} {as : List AV} {l : List Blk},
    Rel B w0 ρ H w → RL0 ρ (ins.map weak1) cells → CDN B' w cells cs vs gs → gs.Nodup → (∀ g ∈ gs, ∀ i x, ρ i = some g → H i = some x → ¬ x.live) → cellsRes hp ins n cs = some (as, l) → (∀ i, n ≤ i → i < n + l.length → H i = none) →
    ∃ ρ', Ext ρ ρ' ∧ Rel B w0 ρ' (updL H n l) w ∧ RL0 ρ' as vs
  | [], [], gs, H, n, ρ, as, l, h, hi, hc, hn, hf, e, hz => by
    simp [cellsRes] at e
    obtain ⟨rfl, rfl⟩ := e
    exact ⟨ρ, Ext.refl ρ, by rw [updL_nil]; exact h, trivial⟩
  | .v x :: cs, v :: vs, gs, H, n, ρ, as, l, h, hi, hc, hn, hf, e, hz => by
    obtain ⟨rfl, hc⟩ := hc
    simp only [cellsRes, cellRes, List.length_nil, Nat.add_zero] at e
    split at e
    · rename_i as' r hr
      cases e
      obtain ⟨ρ', h1, h2, h3⟩ := cellsRes_run hB h hi hc hn hf hr (by simpa using hz)
      exact ⟨ρ', h1, by simpa using h2, ⟨rfl, h3⟩⟩
    · cases e
  | .same j :: cs, v :: vs, gs, H, n, ρ, as, l, h, hi, hc, hn, hf, e, hz => by
    obtain ⟨⟨u, hu, hs⟩, hc⟩ := hc
    simp only [cellsRes, cellRes] at e
    split at e
    · rename_i a l' hw
      split at hw
      · rename_i a' ha'
        split at hw
        · rename_i b hb
          cases hw
          simp only [List.length_nil, Nat.add_zero] at e
          split at e
          · rename_i as' r hr
            cases e
            obtain ⟨ρ', h1, h2, h3⟩ := cellsRes_run hB h hi hc hn hf hr (by simpa using hz)
            have hj := (List.getElem?_eq_some_iff.1 ha').1
            have hget := hi.get j (by simpa using hj)
            have e1 : lget (ins.map weak1) j = weak1 a' := by
              have : ∀ (l : List AV) (j : Nat), l[j]? = some a' → lget (l.map weak1) j = weak1 a' := by
                intro l
                induction l with
                | nil => intro j h; simp at h
                | cons x l ih => intro j h; cases j with
                  | zero => simp at h; subst h; rfl
                  | succ j => exact ih j (by simpa using h)
              exact this ins j ha'
            have e2 : cells.getD j undef = u := by simp [List.getD, hu]
            rw [e1, e2] at hget
            exact ⟨ρ', h1, by simpa using h2, ⟨(weakS_run (weakS_weak1 hb) hget hs).mono h1, h3⟩⟩
          · cases e
        · cases hw
      · cases hw
    · cases e
  | .r T t zs :: cs, v :: vs, gs, H, n, ρ, as, l, h, hi, hc, hn, hf, e, hz => by
    simp only [cellsRes, cellRes] at e
    split at e
    · rename_i as' r hr
      cases e
      have hz0 : H n = none := hz n (Nat.le_refl _) (by simp)
      have hz1 : H (n + 1) = none := hz (n + 1) (by omega) (by simp)
      have hz' : ∀ (b : Blk) i, n + 2 ≤ i → i < n + 2 + r.length → updL H n [b, deadB] i = none := fun b i q1 q2 => by
        unfold updL
        rw [if_neg (by simp; omega)]
        exact hz i (by omega) (by simp; omega)
      have hfr : ∀ {ρ1 : Nat → Option Nat} {b : Blk} {g : Nat}, (∀ i x, ρ i = some g → H i = some x → ¬ x.live) → (∀ i, ρ1 i = some g → (i ≠ n ∧ ρ i = some g) ∨ (i = n ∧ ¬ b.live) ∨ i = n + 1) → ∀ i x, ρ1 i = some g → updL H n [b, deadB] i = some x → ¬ x.live := fun {ρ1 b g} hg h2 i x q1 q2 => by
        rw [updL_two] at q2
        unfold upd at q2
        rcases h2 i q1 with ⟨q, q'⟩ | ⟨q, q'⟩ | q
        · rw [if_neg q] at q2
          by_cases q3 : i = n + 1
          · rw [if_pos q3] at q2; cases q2; exact fun l => l.1 rfl
          · rw [if_neg q3] at q2; exact hg i x q' q2
        · rw [if_pos q] at q2; cases q2; exact q'
        · rw [if_neg (by omega), if_pos q] at q2; cases q2; exact fun l => l.1 rfl
      rcases hc with ⟨hz2, ⟨a, c, rfl⟩, hc⟩ | ⟨hz2, g, gs', rfl, hnew, hc⟩
      · have hdead : ¬ (⟨T, [], some true, some ⟨t, zs, false⟩⟩ : Blk).live := fun l => by
          rcases l.2 _ rfl with q | q
          · cases q
          · exact q (List.eq_nil_of_length_eq_zero hz2)
        obtain ⟨ρ1, e1, h1, h2⟩ := h.noRow hz0 hz1 hdead
        obtain ⟨ρ', h3, h4, h5⟩ := cellsRes_run hB (n := n + 2) h1 (hi.mono e1) hc hn (fun g hg => hfr (hf g hg) fun i q => by
          rcases h2 i g q with q' | q' | q'
          · exact .inl q'
          · exact .inr (.inl ⟨q', hdead⟩)
          · exact .inr (.inr q')) hr (hz' _)
        exact ⟨ρ', e1.trans h3, by rw [updL_app]; exact h4, ⟨⟨fun _ => ⟨a, c, rfl⟩, fun q => absurd hz2 q⟩, h5⟩⟩
      · obtain ⟨ρ1, e1, h1, h2, h3⟩ := h.newRow hz0 hz1 ⟨Nat.le_trans hB hnew.base, hnew.ex⟩ hz2 (hf g (by simp))
        obtain ⟨n1, n2⟩ := List.nodup_cons.1 hn
        obtain ⟨ρ', h4, h5, h6⟩ := cellsRes_run hB (n := n + 2) h1 (hi.mono e1) hc n2 (fun g' hg => hfr (hf g' (by simp [hg])) fun i q => by
          rcases h3 i g' q with q' | ⟨q', q''⟩ | q'
          · exact .inl q'
          · subst q''; exact absurd hg n1
          · exact .inr (.inr q')) hr (hz' _)
        exact ⟨ρ', e1.trans h4, by rw [updL_app]; exact h5, ⟨h2.mono h4, h6⟩⟩
    · cases e
  | [], _ :: _, _, _, _, _, _, _, _, _, hc, _, _, _, _ => hc.elim
  | .v _ :: _, [], _, _, _, _, _, _, _, _, hc, _, _, _, _ => hc.elim
  | .same _ :: _, [], _, _, _, _, _, _, _, _, hc, _, _, _, _ => hc.elim
  | .r _ _ _ :: _, [], _, _, _, _, _, _, _, _, hc, _, _, _, _ => hc.elim
def agOf (l : List AV) : AV := match vals l with | some vs => .v (.agg vs.toArray) | none => .ag l
theorem vals_R0 : ∀ {as : List AV} {l vs : List Value}, vals as = some l → RL0 ρ as vs → vs = l
  | [], l, vs, h, hr => by
    simp [vals] at h
    subst h
    cases vs with
    | nil => rfl
    | cons => exact hr.elim
  | a :: as, l, vs, h, hr => by
    cases a with
    | v x =>
      simp only [vals] at h
      split at h
      · rename_i r hq
        cases h
        cases vs with
        | nil => exact hr.elim
        | cons v vs =>
          have h1 : v = x := hr.1
          rw [h1, vals_R0 hq hr.2]
      · cases h
    | _ => simp [vals] at h
theorem agOf_run {l : List AV} {us : List Value} (h : RL0 ρ l us) : (agOf l).R1 ρ (.agg us.toArray) := by
  unfold agOf
  split
  · rename_i vs hv
    rw [vals_R0 hv h]
    exact rfl
  · exact ⟨us, rfl, h⟩
def groupAV : List AD → List AV → Option (List AV)
  | [], [] => some []
  | .one _ :: as, a :: l => match groupAV as l with | some r => some (a :: r) | none => none
  | .agg q :: as, l => bif Nat.ble q.length l.length then (match groupAV as (l.drop q.length) with | some r => some (agOf (l.take q.length) :: r) | none => none) else none
  | _, _ => none
theorem RL0.split : ∀ {a b : List Value} {l : List AV}, RL0 ρ l (a ++ b) → RL0 ρ (l.take a.length) a ∧ RL0 ρ (l.drop a.length) b
  | [], b, l, h => ⟨by simp [RL0], by simpa using h⟩
  | v :: a, b, x :: l, h => by
    obtain ⟨h1, h2⟩ := h
    obtain ⟨h3, h4⟩ := RL0.split h2
    exact ⟨⟨h1, h3⟩, h4⟩
  | _ :: _, _, [], h => h.elim
theorem groupAV_run : ∀ {ads : List AD} {as rs : List AV} {vs cells : List Value}, groupAV ads as = some rs → ADSh ads vs cells → RL0 ρ as cells → RL1 ρ rs vs
  | [], [], rs, [], cells, h, hs, hr => by simp [groupAV] at h; subst h; trivial
  | .one _ :: ads, a :: as, rs, v :: vs, cells, h, hs, hr => by
    obtain ⟨cs, rfl, hs⟩ := hs
    simp only [groupAV] at h
    split at h
    · rename_i r hg
      cases h
      exact ⟨by
        have := hr.1
        cases a <;> first | exact this | exact this.elim, groupAV_run hg hs hr.2⟩
    · cases h
  | .agg q :: ads, as, rs, v :: vs, cells, h, hs, hr => by
    obtain ⟨us, cs, rfl, hl, rfl, hs⟩ := hs
    simp only [groupAV] at h
    cases hb : Nat.ble q.length as.length with
    | false => simp [hb] at h
    | true =>
      simp only [hb, cond_true] at h
      split at h
      · rename_i r hg
        cases h
        obtain ⟨h1, h2⟩ := hr.split
        rw [hl] at h1 h2
        exact ⟨agOf_run h1, groupAV_run hg hs h2⟩
      · cases h
  | [], [], _, _ :: _, _, _, hs, _ => hs.elim
  | [], _ :: _, _, _, _, h, _, _ => by simp [groupAV] at h
  | .one _ :: _, _, _, [], _, _, hs, _ => hs.elim
  | .agg _ :: _, _, _, [], _, _, hs, _ => hs.elim
  | .one _ :: _, [], _, _ :: _, _, h, _, _ => by simp [groupAV] at h
def oneA : List AV → AV
  | [a] => a
  | l => match vals l with | some r => .v (.tuple r.toArray) | none => .tu l
theorem RL1.vals : ∀ {as : List AV} {l vs : List Value}, Abs.vals as = some l → RL1 ρ as vs → vs = l
  | [], l, vs, h, hr => by
    simp [Abs.vals] at h
    subst h
    cases vs with
    | nil => rfl
    | cons => exact hr.elim
  | a :: as, l, vs, h, hr => by
    cases a with
    | v x =>
      simp only [Abs.vals] at h
      split at h
      · rename_i r hq
        cases h
        cases vs with
        | nil => exact hr.elim
        | cons v vs =>
          have h1 : v = x := hr.1
          rw [h1, RL1.vals hq hr.2]
      · cases h
    | _ => simp [Abs.vals] at h
theorem oneA_run : ∀ {l : List AV} {vs : List Value}, RL1 ρ l vs → (oneA l).R ρ (oneV vs)
  | [a], [v], h => AV.R1_R h.1
  | [], [], h => by show (AV.v (.tuple #[])).R ρ _; exact rfl
  | a :: b :: l, v :: u :: vs, h => by
    show AV.R ρ (match vals (a :: b :: l) with | some r => .v (.tuple r.toArray) | none => .tu (a :: b :: l)) (.tuple (v :: u :: vs).toArray)
    split
    · rename_i r hv
      rw [RL1.vals hv h]
      exact rfl
    · exact ⟨_, rfl, h⟩
  | [], _ :: _, h => h.elim
  | [_], [], h => h.elim
  | [_], _ :: _ :: _, h => h.2.elim
  | _ :: _ :: _, [], h => h.elim
  | _ :: _ :: _, [_], h => h.2.elim
def outX (hp : List Blk) (ins : List AV) (rds : List AD) (K : AV → List Blk → Prop) : Prop :=
  match cellsRes hp ins hp.length (flatCD rds) with
  | some (as, l) => (match groupAV rds as with | some rs => K (oneA rs) l | none => False)
  | none => False
def callR (P : Program) (hp : List Blk) (g : FuncId) (args : List AV) (s : RSpec) (K : AV → List Blk → Prop) : Prop :=
  match P.funcs[g]? with
  | some fn => adsIn P hp fn.params.toList args fun ads ins => match s ads with | some (p, rds) => p ∧ outX hp ins rds K | none => False
  | none => False
theorem callR_val {Φ : World → Prop} {g : FuncId} {s : RSpec} (hs : ∀ ads p rds, s ads = some (p, rds) → p → RAns P Φ g ads rds) {hp : List Blk} {args : List AV} {K : AV → List Blk → Prop} (h : callR P hp g args s K) :
    ∃ av l, K av l ∧ ∀ {w : World} {ρ : Nat → Option Nat} {H : Nat → Option Blk} {vs : List Value}, Φ w → Rel B w0 ρ H w → (∀ k ∈ args.flatMap avK, ∀ b, hp[k]? = some b → H k = some b) → (∀ i, hp.length ≤ i → i < hp.length + l.length → H i = none) → RL ρ args vs →
      Calls P g vs.toArray w fun e w' => ∃ ρ' v, e = .returned v ∧ Ext ρ ρ' ∧ Rel B w0 ρ' (updL H hp.length l) w' ∧ AV.R ρ' av v := by
  unfold callR at h
  split at h
  · rename_i fn hfn
    obtain ⟨ads, ins, h, q⟩ := adsIn_run (B := B) (w0 := w0) h
    split at h
    · rename_i p rds hsp
      obtain ⟨hp0, h⟩ := h
      unfold outX at h
      split at h
      · rename_i as l hcr
        split at h
        · rename_i rs hg
          refine ⟨_, _, h, fun {w ρ H vs} hw hR hH hfree hr => ?_⟩
          obtain ⟨cells, h1, h2, h3⟩ := q hR hH hr
          refine (hs ads p rds hsp hp0 w vs cells hw h1 h2).mono fun e w' hq => ?_
          obtain ⟨hbel, rvs, rcells, gs, he, q1, q2, q3⟩ := hq
          have hR' := hR.later hbel
          obtain ⟨ρ', e1, e2, e3⟩ := cellsRes_run (B' := w.heap.size) hR.base hR' h3 q2 q3 (fun g hg i x p1 p2 p3 => by
            have hlt := hR.lt p1 p2 p3
            have hge : ∀ {cs : List CD} {vs : List Value} {gs : List Nat}, CDN w.heap.size w' cells cs vs gs → ∀ g ∈ gs, w.heap.size ≤ g := by
              intro cs
              induction cs with
              | nil => intro vs gs hc g hg; cases vs with
                | nil => have hc : gs = [] := hc; subst hc; cases hg
                | cons => exact hc.elim
              | cons c cs ih =>
                intro vs gs hc g hg
                cases vs with
                | nil => cases c <;> exact hc.elim
                | cons v vs =>
                  cases c with
                  | v x => exact ih hc.2 g hg
                  | same j => exact ih hc.2 g hg
                  | r T t zs =>
                    rcases hc with ⟨_, _, hc⟩ | ⟨_, g', gs', rfl, hn, hc⟩
                    · exact ih hc g hg
                    · rcases List.mem_cons.1 hg with rfl | hg
                      · exact hn.base
                      · exact ih hc g hg
            have := hge q2 g hg
            omega) hcr hfree
          exact ⟨ρ', _, he, e1, e2, oneA_run (groupAV_run hg q1 e3)⟩
        · exact h.elim
      · exact h.elim
    · exact h.elim
  · exact h.elim
/-! The callee: how it starts, and what it hands back. -/
def stCell (n : Nat) : CD → Option (AV × List Blk)
  | .v x => some (.v x, [])
  | .r T t xs => some (.sl n 0 t.enc.z xs.length, [⟨T, [], some false, some ⟨t, xs, false⟩⟩, deadB])
  | .same _ => none
def stCells : Nat → List CD → Option (List AV × List Blk)
  | _, [] => some ([], [])
  | n, c :: cs => match stCell n c with | some (a, l) => (match stCells (n + l.length) cs with | some (as, r) => some (a :: as, l ++ r) | none => none) | none => none
theorem Rel.addF {h0 : List Blk} (h : Rel B w0 ρ (hpF h0) w) (hno : ∀ i x, hpF h0 i = some x → x.own ≠ some true) (hBw : B = w.heap.size) {T : TypeId} {t : ET} {xs : List t.ty} {v : Value} (hh : Holds w v T t xs) :
    ∃ ρ', Ext ρ ρ' ∧ Rel B w0 ρ' (hpF (h0 ++ [⟨T, [], some false, some ⟨t, xs, false⟩⟩, deadB])) w ∧ (AV.sl h0.length 0 t.enc.z xs.length).R0 ρ' v := by
  by_cases h00 : xs.length = 0
  · obtain ⟨ρ', e1, h1, _⟩ := h.noRow (n := h0.length) (hpF_none _) (by simp [hpF]) (b := ⟨T, [], some false, some ⟨t, xs, false⟩⟩) (fun l => by
      rcases l.2 _ rfl with q | q
      · cases q
      · exact q (List.eq_nil_of_length_eq_zero h00))
    exact ⟨ρ', e1, by rw [hpF_updL]; exact h1, ⟨fun _ => hh.zero h00, fun q => absurd h00 q⟩⟩
  · obtain ⟨g, off, c, cs, T', fz, e, hc, h1, h2⟩ := hh.some' h00
    have hd1 : ρ (h0.length + 1) = none := h.dom _ (by simp [hpF])
    have hN := h.note (k := h0.length + 1) (by simp [hpF]) off
    have hk' : upd (hpF h0) (h0.length + 1) deadB h0.length = none := by unfold upd; rw [if_neg (by omega)]; exact hpF_none _
    have hr1 : rnew ρ (h0.length + 1) off (h0.length + 1) = some off := by unfold rnew; rw [if_pos rfl]
    have hext2 := Ext.new (hN.dom _ hk') g
    have hno' : ∀ i x, upd (hpF h0) (h0.length + 1) deadB i = some x → x.own ≠ some true := fun i x hx => by
      unfold upd at hx
      by_cases q : i = h0.length + 1
      · rw [if_pos q] at hx; cases hx; simp [deadB]
      · rw [if_neg q] at hx; exact hno i x hx
    have hlt : g < w.heap.size := by
      rcases Nat.lt_or_ge g w.heap.size with q | q
      · exact q
      · rw [Array.getElem?_eq_none q] at h1; cases h1
    have hA : Rel B w0 (rnew (rnew ρ (h0.length + 1) off) h0.length g) (upd (upd (hpF h0) (h0.length + 1) deadB) h0.length ⟨T, [], some false, some ⟨t, xs, false⟩⟩) w := by
      refine ⟨hN.below, hN.base, fun i hi => ?_, fun i j b x y hi hj hx hy lx ly oy => ?_, fun i n x hi hx hl => ?_, fun i x hx => ?_, hN.keeps⟩
      · unfold upd at hi
        unfold rnew
        by_cases q : i = h0.length
        · rw [if_pos q] at hi; cases hi
        · rw [if_neg q] at hi ⊢
          exact hN.dom i hi
      · unfold upd at hy
        by_cases q : j = h0.length
        · rw [if_pos q] at hy; cases hy; cases oy
        · rw [if_neg q] at hy
          exact absurd oy (hno' j y hy)
      · unfold rnew at hi
        by_cases q : i = h0.length
        · rw [if_pos q] at hi
          unfold upd at hx
          rw [if_pos q] at hx
          cases hi; cases hx
          subst q
          refine ⟨fun q => (by cases q), cs, ⟨T', fz, h1, fun q => (by cases q)⟩, ?_⟩
          show ∃ off, _
          exact ⟨off, hext2 _ _ hr1, h2⟩
        · rw [if_neg q] at hi
          have hx' : upd (hpF h0) (h0.length + 1) deadB i = some x := by
            have := hx
            unfold upd at this
            rw [if_neg q] at this
            exact this
          obtain ⟨h0', cs', h1', h2'⟩ := hN.blk i n x hi hx' hl
          exact ⟨h0', cs', h1', h2'.mono hext2⟩
      · by_cases q : i = h0.length
        · exact ⟨g, by unfold rnew; rw [if_pos q]⟩
        · have hx' : upd (hpF h0) (h0.length + 1) deadB i = some x := by
            have := hx
            unfold upd at this
            rw [if_neg q] at this
            exact this
          obtain ⟨m, hm⟩ := hN.lies i x hx'
          exact ⟨m, hext2 _ _ hm⟩
    refine ⟨_, (Ext.new hd1 off).trans hext2, by rw [hpF_new2]; exact hA, ⟨fun q => absurd q h00, fun _ => ⟨g, c, off, ?_, ⟨hext2 _ _ hr1, hc⟩, by rw [Nat.zero_mul, Nat.add_zero]; exact e⟩⟩⟩
    unfold rnew; rw [if_pos rfl]
theorem stCells_run (hBw : B = w.heap.size) : ∀ {cs : List CD} {vs : List Value} {h0 : List Blk} {ρ : Nat → Option Nat} {as : List AV} {l : List Blk}, Rel B w0 ρ (hpF h0) w → (∀ i x, hpF h0 i = some x → x.own ≠ some true) →
    CDRs w cs vs → stCells h0.length cs = some (as, l) → ∃ ρ', Ext ρ ρ' ∧ Rel B w0 ρ' (hpF (h0 ++ l)) w ∧ RL0 ρ' as vs
  | [], [], h0, ρ, as, l, h, hno, hc, e => by
    simp [stCells] at e
    obtain ⟨rfl, rfl⟩ := e
    exact ⟨ρ, Ext.refl ρ, by simpa using h, trivial⟩
  | .v x :: cs, v :: vs, h0, ρ, as, l, h, hno, hc, e => by
    simp only [stCells, stCell, List.length_nil, Nat.add_zero] at e
    split at e
    · rename_i as' r hr
      cases e
      obtain ⟨ρ', h1, h2, h3⟩ := stCells_run hBw h hno hc.2 hr
      exact ⟨ρ', h1, by simpa using h2, ⟨hc.1, h3⟩⟩
    · cases e
  | .r T t xs :: cs, v :: vs, h0, ρ, as, l, h, hno, hc, e => by
    simp only [stCells, stCell] at e
    split at e
    · rename_i as' r hr
      cases e
      obtain ⟨ρ1, e1, h1, h2⟩ := h.addF hno hBw hc.1
      have hlen : (h0 ++ [⟨T, [], some false, some ⟨t, xs, false⟩⟩, deadB] : List Blk).length = h0.length + 2 := by simp
      obtain ⟨ρ', h3, h4, h5⟩ := stCells_run hBw (h0 := h0 ++ [⟨T, [], some false, some ⟨t, xs, false⟩⟩, deadB]) h1 (fun i x hx => by
        rw [hpF_new2] at hx
        unfold upd at hx
        by_cases q : i = h0.length
        · rw [if_pos q] at hx; cases hx; simp
        · rw [if_neg q] at hx
          by_cases q2 : i = h0.length + 1
          · rw [if_pos q2] at hx; cases hx; simp [deadB]
          · rw [if_neg q2] at hx; exact hno i x hx) hc.2 (by rw [hlen]; exact hr)
      exact ⟨ρ', e1.trans h3, by rw [← List.append_assoc]; exact h4, ⟨h2.mono h3, h5⟩⟩
    · cases e
  | .same _ :: _, _ :: _, _, _, _, _, _, _, hc, _ => hc.1.elim
  | [], _ :: _, _, _, _, _, _, _, hc, _ => hc.elim
  | .v _ :: _, [], _, _, _, _, _, _, hc, _ => hc.elim
  | .r _ _ _ :: _, [], _, _, _, _, _, _, hc, _ => hc.elim
  | .same _ :: _, [], _, _, _, _, _, _, hc, _ => hc.elim
def rowOut (hp : List Blk) (T : TypeId) (t : ET) (a : AV) (K : List t.ty → Option Nat → Prop) : Prop :=
  match a with
  | .v (.slice none 0 0) => K [] none
  | .rs k n | .os k n => (match hp[k]? with | some b => (match b.row with | some r => bif isMine b && Nat.beq b.T T then n = r.xs.length ∧ srcRow t r (fun xs => K xs (some k)) else False | none => False) | none => False)
  | .ps k o z n => (match hp[k]? with | some b => (match b.row with | some r => bif isMine b && (Nat.beq b.T T && Nat.beq o 0) then srcRow t r (fun xs => n ≤ xs.length ∧ K (xs.take n) (some k)) else False | none => False) | none => False)
  | .s k o n c =>
    (match hp[k]? with
    | some b =>
      (match b.row, vals b.cs with
      | none, some l => bif isMine b && (Nat.beq b.T T && (Nat.beq o 0 && (Nat.beq n c && (Nat.beq b.cs.length (n * t.enc.z) && Nat.ble n maxLen)))) then (match decs t.enc n l with | some ys => K ys (some k) | none => False) else False
      | _, _ => False)
    | none => False)
  | _ => False
structure RowOk (B : Nat) (w : World) (ρ : Nat → Option Nat) (hp : List Blk) (T : TypeId) (t : ET) (ys : List t.ty) (ok : Option Nat) (v : Value) : Prop where
  zero : ys.length = 0 → ∃ a c, v = .slice a 0 c
  some' : ys.length ≠ 0 → ∃ k b g, ok = some k ∧ ρ k = some g ∧ hp[k]? = some b ∧ b.live ∧ b.own = some true ∧ NewRow B w T t ys v g
theorem rowOut_run {hp : List Blk} (h : Rel B w0 ρ (hpF hp) w) {T : TypeId} {t : ET} {a : AV} {v : Value} {K : List t.ty → Option Nat → Prop} (hr : a.R ρ v) (hs : rowOut hp T t a K) : ∃ ys ok, K ys ok ∧ RowOk B w ρ hp T t ys ok v := by
  have main : ∀ {k g : Nat} {b : Blk} {r : Row} {xs : List t.ty} {n c : Nat}, hp[k]? = some b → b.row = some r → b.own = some true → b.T = T → r.E.z = t.enc.z → r.xs.length = xs.length → r.vals = xs.flatMap t.enc.enc → ρ k = some g → n ≤ xs.length → n ≠ 0 → n ≤ c → v = .slice (some ⟨g, 0, none⟩) n c →
      ∃ k b g, some k = some k ∧ ρ k = some g ∧ hp[k]? = some b ∧ b.live ∧ b.own = some true ∧ NewRow B w T t (xs.take n) v g ∧ k = k := fun {k g b r xs n c} hb hw ho hT hz hlen hv hρ hn h0 hc e => by
    have hl : b.live := ⟨by rw [ho]; simp, fun r' e => by rw [hw] at e; cases e; exact .inr (fun q => by rw [q] at hlen; simp at hlen; omega)⟩
    obtain ⟨q0, cs, hL, h2⟩ := h.blk k g b hρ hb hl
    have h1 := hL.own ho
    have q0 : B ≤ g := q0 ho
    unfold Blk.fit at h2
    simp only [hw, ho] at h2
    obtain ⟨cap, p0, p1, p2, p3, p4⟩ := h2
    have hl2 : (xs.take n).length = n := by simp; omega
    refine ⟨k, b, g, rfl, hρ, hb, hl, ho, ⟨q0, c, cap, cs, by rw [hl2]; exact e, by rw [hl2]; exact hc, by rw [← hT]; exact h1, by rw [← hz]; exact p1, p2, by omega, ?_⟩, rfl⟩
    rw [hl2]
    have := take_drop_flat (t := t) (xs := xs) (o := 0) (n := n) (by omega)
    rw [Nat.zero_mul, List.drop_zero, List.drop_zero] at this
    rw [← this, ← hv, ← p4, ← hz, hlen, List.take_take]
    congr 1
    have : n * r.E.z ≤ xs.length * r.E.z := Nat.mul_le_mul_right _ hn
    omega
  unfold rowOut at hs
  split at hs
  · have hr : v = .slice none 0 0 := hr
    subst hr
    exact ⟨[], none, hs, ⟨fun _ => ⟨none, 0, rfl⟩, fun q => absurd rfl q⟩⟩
  · rename_i k n
    split at hs
    · rename_i b hb
      split at hs
      · rename_i r hw
        cases hm : (isMine b && Nat.beq b.T T) with
        | false => simp [hm] at hs
        | true =>
          simp only [hm, cond_true] at hs
          simp only [Bool.and_eq_true] at hm
          obtain ⟨hn, hs⟩ := hs
          obtain ⟨xs, hk, hz, hlen, hv⟩ := srcRow_of hs
          have hnx : n = xs.length := by omega
          subst hnx
          obtain ⟨g, c, hρ, hc, e⟩ := hr
          refine ⟨xs, _, hk, ⟨fun q => ⟨_, _, by rw [e, q]⟩, fun q => ?_⟩⟩
          obtain ⟨k', b', g', _, p1, p2, p3, p4, p5, _⟩ := main hb hw (isMine_iff hm.1) (Nat.eq_of_beq_eq_true hm.2) hz hlen hv hρ (Nat.le_refl _) q hc.2 e
          rw [List.take_length] at p5
          have hl : b.live := ⟨by rw [isMine_iff hm.1]; simp, fun r' e => by rw [hw] at e; cases e; exact .inr (fun q => by rw [q] at hlen; simp at hlen; omega)⟩
          obtain ⟨c', cap, cs, e', r1⟩ := p5.ex
          rw [e] at e'
          cases e'
          exact ⟨k, b, g, rfl, hρ, hb, hl, isMine_iff hm.1, p5⟩
      · exact hs.elim
    · exact hs.elim
  · rename_i k n
    split at hs
    · rename_i b hb
      split at hs
      · rename_i r hw
        cases hm : (isMine b && Nat.beq b.T T) with
        | false => simp [hm] at hs
        | true =>
          simp only [hm, cond_true] at hs
          simp only [Bool.and_eq_true] at hm
          obtain ⟨hn, hs⟩ := hs
          obtain ⟨xs, hk, hz, hlen, hv⟩ := srcRow_of hs
          have hnx : n = xs.length := by omega
          subst hnx
          refine ⟨xs, _, hk, ⟨fun q => ⟨_, _, hr.1 q⟩, fun q => ?_⟩⟩
          obtain ⟨g, c, hρ, hc, e⟩ := hr.2 q
          obtain ⟨k', b', g', _, p1, p2, p3, p4, p5, _⟩ := main hb hw (isMine_iff hm.1) (Nat.eq_of_beq_eq_true hm.2) hz hlen hv hρ (Nat.le_refl _) q hc.2 e
          rw [List.take_length] at p5
          have hl : b.live := ⟨by rw [isMine_iff hm.1]; simp, fun r' e => by rw [hw] at e; cases e; exact .inr (fun q => by rw [q] at hlen; simp at hlen; omega)⟩
          obtain ⟨c', cap, cs, e', r1⟩ := p5.ex
          rw [e] at e'
          cases e'
          exact ⟨k, b, g, rfl, hρ, hb, hl, isMine_iff hm.1, p5⟩
      · exact hs.elim
    · exact hs.elim
  · rename_i k o z n
    split at hs
    · rename_i b hb
      split at hs
      · rename_i r hw
        cases hm : (isMine b && (Nat.beq b.T T && Nat.beq o 0)) with
        | false => simp [hm] at hs
        | true =>
          simp only [hm, cond_true] at hs
          simp only [Bool.and_eq_true] at hm
          obtain ⟨xs, ⟨hn, hk⟩, hz, hlen, hv⟩ := srcRow_of hs
          obtain rfl := Nat.eq_of_beq_eq_true hm.2.2
          have hl2 : (xs.take n).length = n := by simp; omega
          refine ⟨_, _, hk, ⟨fun q => hr.1 (by omega), fun q => ?_⟩⟩
          obtain ⟨g, c, hρ, hc, e⟩ := hr.2 (by omega)
          rw [Nat.zero_mul] at e
          obtain ⟨k', b', g', _, p1, p2, p3, p4, p5, _⟩ := main hb hw (isMine_iff hm.1) (Nat.eq_of_beq_eq_true hm.2.1) hz hlen hv hρ hn (by omega) hc e
          have hl : b.live := ⟨by rw [isMine_iff hm.1]; simp, fun r' e => by rw [hw] at e; cases e; exact .inr (fun q => by rw [q] at hlen; simp at hlen; omega)⟩
          obtain ⟨c', cap, cs, e', r1⟩ := p5.ex
          rw [e] at e'
          simp only [Value.slice.injEq, Option.some.injEq, Addr.mk.injEq] at e'
          obtain ⟨⟨rfl, _⟩, _⟩ := e'
          exact ⟨k, b, g, rfl, hρ, hb, hl, isMine_iff hm.1, p5⟩
      · exact hs.elim
    · exact hs.elim
  · rename_i k o n c
    split at hs
    · rename_i b hb
      split at hs
      · rename_i l hw hv
        cases hm : (isMine b && (Nat.beq b.T T && (Nat.beq o 0 && (Nat.beq n c && (Nat.beq b.cs.length (n * t.enc.z) && Nat.ble n maxLen))))) with
        | false => simp [hm] at hs
        | true =>
          simp only [hm, cond_true] at hs
          simp only [Bool.and_eq_true] at hm
          obtain ⟨q1, q2, q4, q5, q6, q7⟩ := hm
          have q1 := isMine_iff q1
          obtain rfl := Nat.eq_of_beq_eq_true q2
          obtain rfl := Nat.eq_of_beq_eq_true q4
          obtain rfl := Nat.eq_of_beq_eq_true q5
          have q6 := Nat.eq_of_beq_eq_true q6
          have q7 := Nat.le_of_ble_eq_true q7
          split at hs
          · rename_i ys hy
            obtain ⟨e1, e2⟩ := decs_back hy
            subst e2
            obtain ⟨g, hg, e⟩ := hr
            have hl : b.live := Blk.live_of q1 hw
            obtain ⟨h0, cs, hL, hf⟩ := h.blk k g b hg hb hl
            have h1 := hL.own q1
            have h0 : B ≤ g := h0 q1
            unfold Blk.fit at hf
            rw [hw] at hf
            obtain ⟨f1, f2⟩ := hf
            obtain ⟨v1, v2⟩ := vals_some hv
            have hsz : cs.toList.length = l.length := by rw [Array.length_toList]; omega
            have hcs : cs.toList = l := by
              apply List.ext_getElem?
              intro j
              by_cases hj : j < l.length
              · have := f2 j (by omega)
                rw [v2 j (by omega)] at this
                have this : cs.getD j undef = l.getD j undef := this
                have hj' : j < cs.size := by omega
                simp [List.getD, hj, hj'] at this ⊢
                exact this
              · rw [List.getElem?_eq_none (by omega), List.getElem?_eq_none (by omega)]
            exact ⟨ys, _, hs, ⟨fun q => ⟨_, _, by rw [e, q]⟩, fun q => ⟨k, b, g, rfl, hg, hb, hl, q1, h0, _, ys.length, cs, e, Nat.le_refl _, h1, by omega, q7, Nat.le_refl _, by rw [hcs, e1]; exact List.take_of_length_le (by omega)⟩⟩⟩
          · exact hs.elim
      · exact hs.elim
    · exact hs.elim
  · exact hs.elim
def sameAV (k : Prop) : AV → AV → Prop
  | .sl i o z n, .sl i' o' z' n' => bif Nat.beq i i' && (Nat.beq o o' && Nat.beq z z') then n = n' ∧ k else False
  | _, _ => False
def chkCells (hp : List Blk) (sts : List AV) : List CD → List AV → List Nat → Prop
  | [], [], _ => True
  | .v x :: cs, a :: as, seen => (match a with | .v y => y = x ∧ chkCells hp sts cs as seen | _ => False)
  | .r T t zs :: cs, a :: as, seen => rowOut hp T t a fun ys ok => ys = zs ∧ (match ok with | none => chkCells hp sts cs as seen | some k => bif memN k seen then False else chkCells hp sts cs as (k :: seen))
  | .same j :: cs, a :: as, seen => (match sts[j]? with | some s => sameAV (chkCells hp sts cs as seen) s a | none => False)
  | _, _, _ => False
theorem sameAV_run {k : Prop} {ρ' : Nat → Option Nat} (hext : Ext ρ ρ') {a b : AV} {u v : Value} (h : sameAV k a b) (hu : a.R0 ρ u) (hv : b.R0 ρ' v) : SameSl u v ∧ k := by
  unfold sameAV at h
  split at h
  · rename_i i o z n i' o' z' n'
    rw [bif_iff] at h
    obtain ⟨h1, h2, h3⟩ := h
    simp only [Bool.and_eq_true] at h1
    obtain ⟨b1, b2, b3⟩ := h1
    obtain rfl := Nat.eq_of_beq_eq_true b1
    obtain rfl := Nat.eq_of_beq_eq_true b2
    obtain rfl := Nat.eq_of_beq_eq_true b3
    subst h2
    refine ⟨?_, h3⟩
    by_cases h0 : n = 0
    · obtain ⟨a, c, e⟩ := hu.1 h0
      obtain ⟨a', c', e'⟩ := hv.1 h0
      exact ⟨0, a, a', c, c', e, e', fun q => absurd rfl q⟩
    · obtain ⟨m, c, off, h1, h2, e⟩ := hu.2 h0
      obtain ⟨m', c', off', h1', h2', e'⟩ := hv.2 h0
      have q1 := hext _ _ h1
      have q2 := hext _ _ h2.1
      rw [h1'] at q1
      rw [h2'.1] at q2
      cases q1
      cases q2
      exact ⟨n, _, _, c, c', e, e', fun _ => ⟨rfl, h2'.2⟩⟩
  · exact h.elim
theorem chkCells_run {hp : List Blk} {ρ0 : Nat → Option Nat} {sts : List AV} {cells : List Value} (h : Rel B w0 ρ (hpF hp) w) (hext : Ext ρ0 ρ) (hst : RL0 ρ0 sts cells) : ∀ {cs : List CD} {as : List AV} {vs : List Value} {seen : List Nat}, RL0 ρ as vs → chkCells hp sts cs as seen →
    ∃ gs, CDN B w cells cs vs gs ∧ gs.Nodup ∧ ∀ g ∈ gs, ∃ k b, k ∉ seen ∧ ρ k = some g ∧ hp[k]? = some b ∧ b.live ∧ b.own = some true
  | [], [], [], seen, _, _ => ⟨[], rfl, List.nodup_nil, fun g hg => by cases hg⟩
  | .v x :: cs, a :: as, v :: vs, seen, hr, hc => by
    simp only [chkCells] at hc
    split at hc
    · obtain ⟨e, hc⟩ := hc
      obtain ⟨gs, h1, h2, h3⟩ := chkCells_run h hext hst hr.2 hc
      have hv := hr.1
      exact ⟨gs, ⟨by rw [← e]; exact hv, h1⟩, h2, h3⟩
    · exact hc.elim
  | .same j :: cs, a :: as, v :: vs, seen, hr, hc => by
    simp only [chkCells] at hc
    split at hc
    · rename_i s hs
      have hj := (List.getElem?_eq_some_iff.1 hs).1
      have hget := hst.get j hj
      have e1 : lget sts j = s := by
        have : ∀ (l : List AV) (j : Nat), l[j]? = some s → lget l j = s := by
          intro l
          induction l with
          | nil => intro j h; simp at h
          | cons x l ih => intro j h; cases j with
            | zero => simpa [lget] using h
            | succ j => exact ih j (by simpa using h)
        exact this sts j hs
      rw [e1] at hget
      obtain ⟨q1, hc⟩ := sameAV_run hext hc hget hr.1
      obtain ⟨gs, h1, h2, h3⟩ := chkCells_run h hext hst hr.2 hc
      have hlen := hst.length
      have hu : cells[j]? = some (cells.getD j undef) := by simp [List.getD, show j < cells.length by omega]
      exact ⟨gs, ⟨⟨_, hu, q1⟩, h1⟩, h2, h3⟩
    · exact hc.elim
  | .r T t zs :: cs, a :: as, v :: vs, seen, hr, hc => by
    simp only [chkCells] at hc
    obtain ⟨ys, ok, ⟨e, hc⟩, hok⟩ := rowOut_run h (AV.R0_R hr.1) hc
    subst e
    cases ok with
    | none =>
      obtain ⟨gs, h1, h2, h3⟩ := chkCells_run h hext hst hr.2 hc
      refine ⟨gs, .inl ⟨?_, ?_, h1⟩, h2, h3⟩
      · rcases Nat.eq_zero_or_pos ys.length with q | q
        · exact q
        · obtain ⟨k, b, g, e, _⟩ := hok.some' (by omega); cases e
      · refine hok.zero ?_
        rcases Nat.eq_zero_or_pos ys.length with q | q
        · exact q
        · obtain ⟨k, b, g, e, _⟩ := hok.some' (by omega); cases e
    | some k0 =>
      cases hmem : memN k0 seen with
      | true => simp [hmem] at hc
      | false =>
        simp only [hmem, cond_false] at hc
        obtain ⟨gs, h1, h2, h3⟩ := chkCells_run h hext hst hr.2 hc
        by_cases hy : ys.length = 0
        · exact ⟨gs, .inl ⟨hy, hok.zero hy, h1⟩, h2, fun g hg => by
            obtain ⟨k, b, p1, p2⟩ := h3 g hg
            exact ⟨k, b, fun q => p1 (List.mem_cons_of_mem _ q), p2⟩⟩
        · obtain ⟨k, b, g, e, p1, p2, p3, p4, p5⟩ := hok.some' hy
          cases e
          refine ⟨g :: gs, .inr ⟨hy, g, gs, rfl, p5, h1⟩, List.nodup_cons.2 ⟨fun hg => ?_, h2⟩, fun g' hg' => ?_⟩
          · obtain ⟨k', b', r1, r2, r3, r4, r5⟩ := h3 g hg
            have := h.inj k' k0 g b' b r2 p1 r3 p2 r4 p3 p4
            subst this
            exact r1 (List.mem_cons_self ..)
          · rcases List.mem_cons.1 hg' with rfl | hg'
            · exact ⟨k0, b, memN_iff hmem, p1, p2, p3, p4⟩
            · obtain ⟨k', b', r1, r2⟩ := h3 g' hg'
              exact ⟨k', b', fun q => r1 (List.mem_cons_of_mem _ q), r2⟩
  | [], [], _ :: _, _, hr, _ => hr.elim
  | [], _ :: _, _, _, _, hc => by simp [chkCells] at hc
  | .v _ :: _, [], _, _, _, hc => by simp [chkCells] at hc
  | .same _ :: _, [], _, _, _, hc => by simp [chkCells] at hc
  | .r _ _ _ :: _, [], _, _, _, hc => by simp [chkCells] at hc
  | .v _ :: _, _ :: _, [], _, hr, _ => hr.elim
  | .same _ :: _, _ :: _, [], _, hr, _ => hr.elim
  | .r _ _ _ :: _, _ :: _, [], _, hr, _ => hr.elim
def resL (rds : List AD) (a : AV) : Option (List AV) :=
  match rds with
  | [_] => some [a]
  | _ => match a with | .tu l => some l | .v (.tuple vs) => some (vs.toList.map .v) | _ => none
def resCells : List AD → List AV → Option (List AV)
  | [], [] => some []
  | .one _ :: ds, a :: as => (match a with | .ag _ => none | .tu _ => none | a => match resCells ds as with | some r => some (a :: r) | none => none)
  | .agg l :: ds, a :: as => (match cellsAV a with | some q => bif Nat.beq q.length l.length then (match resCells ds as with | some r => some (q ++ r) | none => none) else none | none => none)
  | _, _ => none
def retK (sts : List AV) (rds : List AD) : AV → List Blk → Prop := fun a hp =>
  match resL rds a with
  | some l => (match resCells rds l with | some cells => chkCells hp sts (flatCD rds) cells [] | none => False)
  | none => False
theorem RL1.rl : ∀ {as : List AV} {vs : List Value}, RL1 ρ as vs → RL ρ as vs
  | [], [], _ => trivial
  | _ :: _, _ :: _, h => ⟨AV.R1_R h.1, RL1.rl h.2⟩
  | [], _ :: _, h => h.elim
  | _ :: _, [], h => h.elim
theorem resCells_run : ∀ {rds : List AD} {l cells : List AV} {vs : List Value}, resCells rds l = some cells → RL ρ l vs → ∃ cvs, ADSh rds vs cvs ∧ RL0 ρ cells cvs ∧ vs.length = rds.length
  | [], [], cells, [], h, _ => by simp [resCells] at h; subst h; exact ⟨[], rfl, trivial, rfl⟩
  | .one c :: ds, a :: as, cells, v :: vs, h, hr => by
    simp only [resCells] at h
    split at h
    · cases h
    · cases h
    · rename_i h1 h2
      split at h
      · rename_i r hq
        cases h
        obtain ⟨cvs, q1, q2, q3⟩ := resCells_run hq hr.2
        refine ⟨v :: cvs, ⟨cvs, rfl, q1⟩, ⟨?_, q2⟩, by simp [q3]⟩
        have := hr.1
        cases a with
        | ag l => exact absurd rfl (h1 l)
        | tu l => exact absurd rfl (h2 l)
        | _ => exact this
      · cases h
  | .agg l :: ds, a :: as, cells, v :: vs, h, hr => by
    simp only [resCells] at h
    split at h
    · rename_i q hc
      cases hb : Nat.beq q.length l.length with
      | false => simp [hb] at h
      | true =>
        simp only [hb, cond_true] at h
        split at h
        · rename_i r hq
          cases h
          obtain ⟨cvs, q1, q2, q3⟩ := resCells_run hq hr.2
          obtain ⟨us, rfl, hu⟩ := cellsAV_run hc hr.1
          exact ⟨us ++ cvs, ⟨us, cvs, rfl, by rw [← hu.length, Nat.eq_of_beq_eq_true hb], rfl, q1⟩, hu.app q2, by simp [q3]⟩
        · cases h
    · cases h
  | [], [], _, _ :: _, _, hr => hr.elim
  | [], _ :: _, _, _, h, _ => by simp [resCells] at h
  | .one _ :: _, [], _, _, h, _ => by simp [resCells] at h
  | .agg _ :: _, [], _, _, h, _ => by simp [resCells] at h
  | .one _ :: _, _ :: _, _, [], _, hr => hr.elim
  | .agg _ :: _, _ :: _, _, [], _, hr => hr.elim
theorem oneV_tuple {vs : List Value} (h : vs.length ≠ 1) : oneV vs = .tuple vs.toArray := by
  match vs, h with
  | [], _ => rfl
  | [_], h => exact absurd rfl h
  | _ :: _ :: _, _ => rfl
theorem retK_run {hp : List Blk} {ρ0 : Nat → Option Nat} {sts : List AV} {cells : List Value} {rds : List AD} {a : AV} {v : Value} (h : Rel B w0 ρ (hpF hp) w) (hext : Ext ρ0 ρ) (hst : RL0 ρ0 sts cells) (hr : a.R ρ v) (hk : retK sts rds a hp) :
    ∃ rvs rcells gs, v = oneV rvs ∧ ADSh rds rvs rcells ∧ CDN B w cells (flatCD rds) rcells gs ∧ gs.Nodup := by
  unfold retK at hk
  split at hk
  · rename_i l hl
    split at hk
    · rename_i cs hc
      have main : ∀ {vs : List Value}, RL ρ l vs → (∀ n, vs.length = n → n = rds.length → v = oneV vs) → ∃ rvs rcells gs, v = oneV rvs ∧ ADSh rds rvs rcells ∧ CDN B w cells (flatCD rds) rcells gs ∧ gs.Nodup := fun {vs} hv he => by
        obtain ⟨cvs, q1, q2, q3⟩ := resCells_run hc hv
        obtain ⟨gs, r1, r2, _⟩ := chkCells_run h hext hst q2 hk
        exact ⟨vs, cvs, gs, he _ rfl q3, q1, r1, r2⟩
      unfold resL at hl
      split at hl
      · cases hl
        exact main (vs := [v]) ⟨hr, trivial⟩ (fun _ _ _ => rfl)
      · rename_i hne
        split at hl
        · cases hl
          obtain ⟨vs, rfl, hq⟩ := hr
          refine main hq.rl fun n h1 h2 => (oneV_tuple ?_).symm
          intro h1'
          rw [h1'] at h1
          match rds, h2 with
          | [], h2 => simp at h2; omega
          | [q], _ => exact hne q rfl
          | _ :: _ :: _, h2 => simp at h2; omega
        · rename_i vs
          cases hl
          have hr : v = .tuple vs := hr
          subst hr
          refine main (vs := vs.toList) (RL.vals _) fun n h1 h2 => ?_
          rw [oneV_tuple]
          intro h1'
          rw [h1'] at h1
          match rds, h2 with
          | [], h2 => simp at h2; omega
          | [q], _ => exact hne q rfl
          | _ :: _ :: _, h2 => simp at h2; omega
        · cases hl
    · exact hk.elim
  · exact hk.elim
/-! Bytes and strings. -/
def bytesV (s : ByteArray) : List Int := s.data.toList.map fun b => (b.toNat : Int)
def strV (ns : List Int) : ByteArray := ns.foldl (fun r n => r.push (UInt8.ofNat n.toNat)) ByteArray.empty
theorem bytesV_length (s : ByteArray) : (bytesV s).length = s.size := by unfold bytesV; simp
theorem flat_bytes : ∀ (ys : List Int), ys.flatMap (ET.int .u8).enc.enc = ys.map (Value.int .u8)
  | [] => rfl
  | y :: l => by rw [List.flatMap_cons, List.map_cons, flat_bytes l]; rfl
def convX (P : Program) (hp : List Blk) (s d : TypeId) (x : AV) (K : AV → List Blk → Bool → Prop) (other : Prop) : Prop :=
  match P.underlying s, P.underlying d with
  | some (.slice e), some .string =>
    (match P.underlying e with
    | some (.int .u8) => srcY hp e (.int .u8) x fun _ ys _ => K (.v (.string (strV ys))) hp false
    | _ => False)
  | some .string, some (.slice e) =>
    (match P.underlying e, strOf x with
    | some (.int .u8), some s => K (.sl hp.length 0 1 s.size) (hp ++ [⟨e, [], some false, some ⟨.int .u8, bytesV s, false⟩⟩, deadB]) true
    | _, _ => False)
  | _, _ => other
theorem conv_str_run {w : World} {s d e : TypeId} {v : Value} {ys : List Int} (hs : P.underlying s = some (.slice e)) (he : P.underlying e = some (.int .u8)) (hd : P.underlying d = some .string)
    (h : Holds w v e (.int .u8) ys) : (convert s d v).run P w = .ok (.string (strV ys)) w := by
  by_cases h0 : ys.length = 0
  · obtain ⟨a, c, rfl⟩ := h.zero h0
    rw [run_convert_bytes_string w s d e a 0 c hs he hd]
    obtain rfl : ys = [] := List.eq_nil_of_length_eq_zero h0
    cases a with
    | none => rfl
    | some a =>
      have := run_loadCells_list (P := P) w a [] (fun j v hj => by simp at hj)
      exact run_bytesToString w a 0 c [] this
  · obtain ⟨ad, c, rfl, hc⟩ := h.cells h0
    rw [run_convert_bytes_string w s d e (some ad) ys.length c hs he hd]
    have := run_loadCells_list (P := P) w ad (ys.map (Value.int .u8)) (fun j v hj => hc j v (by rw [flat_bytes]; exact hj))
    rw [List.length_map] at this
    exact run_bytesToString w ad ys.length c ys this
theorem conv_bytes_run {H : Nat → Option Blk} (h : Rel B w0 ρ H w) {n : Nat} (hn : H n = none) (hn1 : H (n + 1) = none) {s d e : TypeId} {x : ByteArray} (hs : P.underlying s = some .string) (hd : P.underlying d = some (.slice e)) (he : P.underlying e = some (.int .u8)) :
    ∃ v w' ρ', (convert s d (.string x)).run P w = .ok v w' ∧ Ext ρ ρ' ∧ Rel B w0 ρ' (upd (upd H (n + 1) deadB) n ⟨e, [], some false, some ⟨.int .u8, bytesV x, false⟩⟩) w' ∧ (AV.sl n 0 1 x.size).R ρ' v := by
  have hr := run_bytes_of_string (P := P) w s d e x hs hd he
  have hge := grownCap_ge w x.size 0 e
  generalize grownCap w x.size 0 e = cap at *
  have hD : Rel B w0 ρ H w.drew := h.drawn _
  have hN := hD.note (k := n + 1) hn1 0
  have hk' : upd H (n + 1) deadB n = none := by unfold upd; rw [if_neg (by omega)]; exact hn
  have hr1 : rnew ρ (n + 1) 0 (n + 1) = some 0 := by unfold rnew; rw [if_pos rfl]
  have hG := hN.newG (k := n) hk' (b := ⟨e, [], some false, some ⟨.int .u8, bytesV x, false⟩⟩) (fz := ((bytesRow x cap).size, (bytesRow x cap).size + 1)) (fun q => by cases q) (cs := bytesRow x cap) (by
    unfold Blk.fit
    refine ⟨0, hr1, ?_⟩
    show List.take ((bytesV x).length * 1) (List.drop 0 (bytesRow x cap).toList) = (bytesV x).flatMap (ET.int .u8).enc.enc
    rw [flat_bytes, Nat.mul_one, List.drop_zero]
    unfold bytesRow bytesV
    rw [Array.toList_append, Array.toList_map, List.map_map]
    have : (List.map (fun b : UInt8 => (b.toNat : Int)) x.data.toList).length = (List.map (fun b : UInt8 => Value.int .u8 (b.toNat : Int)) x.data.toList).length := by simp
    rw [this, List.take_left']
    · rfl
    · rfl)
  have he1 := Ext.new (hD.dom (n + 1) hn1) 0
  have he2 := Ext.new (hN.dom _ hk') w.drew.heap.size
  refine ⟨_, _, _, hr, he1.trans he2, hG, ?_⟩
  refine ⟨fun q => ⟨_, _, by rw [q]⟩, fun _ => ⟨w.heap.size, cap, 0, ?_, ⟨he2 _ _ hr1, hge⟩, by simp⟩⟩
  show rnew _ n w.drew.heap.size n = _
  unfold rnew
  rw [if_pos rfl]
  rfl
/-! Rows that are made. -/
def makeX (P : Program) (t : TypeId) (x y : AV) (hp : List Blk) (K : AV → List Blk → Prop) : Prop :=
  match x, y, elemOf P t with
  | .v (.int _ l), .v (.int _ c), some (e, i, z) =>
    (match encOf z.cells.toList with
    | some te =>
      (match te.enc.dec z.cells.toList with
      | some d => bif Nat.blt 0 i.size && (Nat.beq te.enc.z i.size && Nat.beq z.cells.size i.size) then
          bcase (decide (0 ≤ l) && (decide (l ≤ c) && capOk c.toNat i.bytes)) (K (.rs hp.length l.toNat) (hp ++ [⟨e, [], some true, some ⟨te, List.replicate l.toNat d, true⟩⟩, deadB])) False else False
      | none => False)
    | none => False)
  | _, _, _ => False
theorem made_take {te : ET} {d : te.ty} {z : Array Value} (hd : te.enc.enc d = z.toList) (hz : 0 < z.size) (hs : te.enc.z = z.size) (l c : Nat) (h : l ≤ c) :
    (madeCells z (c * z.size)).toList.take (l * z.size) = (List.replicate l d).flatMap te.enc.enc := by
  have e : ∀ c, (madeCells z (c * z.size)).toList = (List.replicate c d).flatMap te.enc.enc := by
    intro c
    induction c with
    | zero => simp [madeCells]
    | succ c ih =>
      have hsz := hz
      rw [List.replicate_succ', List.flatMap_append, ← ih]
      unfold madeCells
      rw [Array.toList_map, Array.toList_map, Array.toList_range, Array.toList_range, Nat.add_mul, Nat.one_mul, List.range_add, List.map_append]
      congr 1
      rw [List.flatMap_cons, List.flatMap_nil, List.append_nil, hd, List.map_map]
      apply List.ext_getElem?
      intro j
      by_cases hj : j < z.size
      · have : (c * z.size + j) % z.size = j := by rw [Nat.mul_add_mod_self_right, Nat.mod_eq_of_lt hj]
        simp [hj, this]
      · rw [List.getElem?_eq_none (by simp; omega), List.getElem?_eq_none (by simp; omega)]
  rw [e c, ← hs]
  have := take_drop_flat (t := te) (xs := List.replicate c d) (o := 0) (n := l) (by simp; omega)
  rw [Nat.zero_mul, List.drop_zero, List.drop_zero] at this
  rw [this, List.take_replicate, Nat.min_eq_left h]
theorem makeX_run {hp : List Blk} (h : Rel B w0 ρ (hpF hp) w) {t : TypeId} {x y : AV} {u v : Value} (hx : x.R ρ u) (hy : y.R ρ v) {K : AV → List Blk → Prop} (hm : makeX P t x y hp K) :
    ∃ av hp' w' ρ' v', Ext ρ ρ' ∧ Rel B w0 ρ' (hpF hp') w' ∧ av.R ρ' v' ∧ K av hp' ∧ (Instr.makeSlice t u v).run P w = .ok v' w' := by
  unfold makeX at hm
  split at hm
  · rename_i k1 l k2 c e i z he
    have hx : u = .int k1 l := hx
    have hy : v = .int k2 c := hy
    subst hx hy
    split at hm
    · rename_i te _
      split at hm
      · rename_i d hd
        cases hg : (Nat.blt 0 i.size && (Nat.beq te.enc.z i.size && Nat.beq z.cells.size i.size)) with
        | false => simp [hg] at hm
        | true =>
          simp only [hg, cond_true] at hm
          simp only [Bool.and_eq_true] at hg
          obtain ⟨g1, g2, g3⟩ := hg
          have g1 : 0 < i.size := Nat.le_of_ble_eq_true g1
          have g2 := Nat.eq_of_beq_eq_true g2
          have g3 := Nat.eq_of_beq_eq_true g3
          obtain ⟨hb, hk⟩ := bcase_T hm
          simp only [Bool.and_eq_true, decide_eq_true_eq] at hb
          obtain ⟨b1, b2, b3⟩ := hb
          unfold capOk at b3
          simp only [Bool.and_eq_true] at b3
          have b4 := Nat.le_of_ble_eq_true b3.1
          have b5 := Nat.le_of_ble_eq_true b3.2
          unfold elemOf at he
          split at he
          · rename_i e' hu
            split at he
            · rename_i i' hi
              split at he
              · rename_i z' hz'
                cases he
                have hmax : maxLen ≤ 9223372036854775807 := by simp [maxLen]
                have hrun := run_make (P := P) w t e i z hu hi hz' k1 k2 l c b1 b2 (by
                  have : ((c.toNat * i.bytes : Nat) : Int) ≤ 140737488355328 := by omega
                  rw [Int.natCast_mul, Int.toNat_of_nonneg (by omega)] at this
                  rw [Int.mul_comm]
                  omega) (by omega)
                have hlc : l.toNat ≤ c.toNat := by omega
                have hben := te.enc.back _ _ hd
                have hown : (w.alloc (.cells (madeCells z.cells (c.toNat * i.size)) e)).ownsRow B e te.enc.z (.slice (some ⟨w.heap.size, 0, none⟩) l.toNat c.toNat) l.toNat ((List.replicate l.toNat d).flatMap te.enc.enc) := by
                  refine ⟨by rw [flat_length]; simp, .inr ⟨w.heap.size, c.toNat, _, rfl, h.base, heap_alloc_new w _, hlc, b5, by rw [size_madeCells, g2], ?_⟩⟩
                  rw [g2, ← g3]
                  exact made_take hben (by omega) (by omega) _ _ hlc
                have hR' : Rel B w0 ρ (hpF hp) (w.alloc (.cells (madeCells z.cells (c.toNat * i.size)) e)) := h.later ((Below.refl _ _).alloc (Nat.le_refl _) _)
                have hl2 : (List.replicate l.toNat d).length = l.toNat := by simp
                obtain ⟨ρ', h1, h2, h3⟩ := hR'.addRow (k := hp.length) (hpF_none hp) (by simp [hpF]) (T := e) (r := ⟨te, List.replicate l.toNat d, true⟩) (v := .slice (some ⟨w.heap.size, 0, none⟩) l.toNat c.toNat) (by simp) (by
                  show World.ownsRow _ B e te.enc.z _ (List.replicate l.toNat d).length _
                  rw [hl2]; exact hown) (fun j g x q1 q2 q3 q4 => by
                  cases q1
                  have := h.lt q2 q3 q4
                  exact absurd this (Nat.lt_irrefl _))
                refine ⟨_, _, _, ρ', _, h1, by rw [hpF_new2]; exact h2, ?_, hk, hrun⟩
                have h3' : (AV.rs hp.length (List.replicate l.toNat d).length).R ρ' _ := h3
                rw [hl2] at h3'
                exact h3'
              · cases he
            · cases he
          · cases he
      · exact hm.elim
    · exact hm.elim
  · exact hm.elim
/-! Elements of rows that came in. -/
theorem rowLoad_run {r : Row} {t : TypeId} {f : Nat} {x : r.t.ty} {a : AV} (ha : rowLoad P r t f x = some a) {n base : Nat} (hc : ∀ g, g < r.E.z → w.cell? ⟨n, base + g, none⟩ = some ((r.E.enc x).getD g undef)) :
    ∃ v, (loadVar t ⟨n, base + f, none⟩).run P w = .ok v w ∧ a.R ρ v := by
  unfold rowLoad at ha
  cases hu : P.underlying t with
  | none => simp [hu] at ha
  | some d =>
    simp only [hu] at ha
    unfold loadVar
    simp only [Sem.run_bind, run_isAggD hu, Result.andThen_ok]
    cases hd : isAggD d with
    | true =>
      simp only [hd, cond_true] at ha
      cases hi : P.info? t with
      | none => simp [hi] at ha
      | some i =>
        simp only [hi] at ha
        cases hs : Nat.ble (f + i.size) r.E.z with
        | false => simp [hs] at ha
        | true =>
          simp only [hs, cond_true, Option.some.injEq] at ha
          subst ha
          have hs' := Nat.le_of_ble_eq_true hs
          have hlen : (((r.E.enc x).drop f).take i.size).length = i.size := by simp [r.E.len]; omega
          have hz : (sizeOf t).run P w = .ok i.size w := by
            unfold sizeOf
            simp only [Sem.run_bind, run_typeInfo w hi, Result.andThen_ok]
            rfl
          have hcc := run_loadCells_list (P := P) w ⟨n, base + f, none⟩ (((r.E.enc x).drop f).take i.size) (fun q v hq => by
            have hq' := (List.getElem?_eq_some_iff.1 hq).1
            rw [hlen] at hq'
            rw [addr_add, Nat.add_assoc, hc (f + q) (by omega)]
            rw [List.getElem?_take, if_pos hq', List.getElem?_drop] at hq
            have q2 : ∀ (l : List Value), l[f + q]? = some v → l.getD (f + q) undef = v := fun l hl => by simp [List.getD, hl]
            rw [q2 _ hq])
          rw [hlen] at hcc
          simp only [if_true, Sem.run_bind, hz, Result.andThen_ok, hcc]
          exact ⟨_, rfl, rfl⟩
    | false =>
      simp only [hd, cond_false] at ha
      cases hs : Nat.blt f r.E.z with
      | false => simp [hs] at ha
      | true =>
        simp only [hs, cond_true, Option.some.injEq] at ha
        subst ha
        refine ⟨_, ?_, rfl⟩
        simp only [Bool.false_eq_true, if_false]
        rw [run_load, hc f (Nat.le_of_ble_eq_true hs)]
def loadF (P : Program) (b : Blk) (t : TypeId) (j z f : Nat) (K : AV → Prop) : Prop :=
  match b.own, b.row with
  | some false, some r => bif Nat.beq r.E.z z then (match rowLoad P r t f (r.xs.getD j r.E.d) with | some a => bcase (Nat.blt j r.xs.length) (K a) False | none => False) else False
  | _, _ => False
theorem loadF_run {b : Blk} {t : TypeId} {j z f : Nat} {K : AV → Prop} (hl : loadF P b t j z f K) :
    ∃ a, K a ∧ ∀ {w : World} {ρ : Nat → Option Nat} {H : Nat → Option Blk} {k n off : Nat}, Rel B w0 ρ H w → ρ k = some n → ρ (k + 1) = some off → H k = some b → ∃ v, (loadVar t ⟨n, off + j * z + f, none⟩).run P w = .ok v w ∧ a.R ρ v := by
  unfold loadF at hl
  split at hl
  · rename_i r ho hw
    cases hz : Nat.beq r.E.z z with
    | false => simp [hz] at hl
    | true =>
      simp only [hz, cond_true] at hl
      have hz := Nat.eq_of_beq_eq_true hz
      subst hz
      split at hl
      · rename_i a ha
        obtain ⟨hj, hk⟩ := bcase_T hl
        refine ⟨a, hk, fun {w ρ H k n off} h hk hoff hb => ?_⟩
        have hj : j < r.xs.length := Nat.le_of_ble_eq_true hj
        obtain ⟨cs, T', fz, h1, h2⟩ := h.fcells hk hoff hb ho hw (fun q => by rw [q] at hj; simp at hj)
        refine rowLoad_run ha (fun g hg => ?_)
        have hlt : j * r.E.z + g < r.xs.length * r.E.z := by
          have : (j + 1) * r.E.z ≤ r.xs.length * r.E.z := Nat.mul_le_mul_right _ hj
          rw [Nat.add_mul] at this
          omega
        have e1 := congrArg (fun l => l[j * r.E.z + g]?) h2
        simp only [List.getElem?_take, if_pos hlt, List.getElem?_drop] at e1
        have e2 : r.vals[j * r.E.z + g]? = (r.E.enc (r.xs.getD j r.E.d))[g]? := flat_get (E := r.E) hg hj
        rw [e2] at e1
        rw [cellAt h1, show off + j * r.E.z + g = off + (j * r.E.z + g) by omega, e1]
        have hlen : g < (r.E.enc (r.xs.getD j r.E.d)).length := by rw [r.E.len]; exact hg
        have q : ∀ (l : List Value), g < l.length → l[g]? = some (l.getD g undef) := fun l hl => by simp [List.getD, hl]
        exact q _ hlen
      · exact hl.elim
  · exact hl.elim
def isStrA : List AV → Bool
  | [_, .v (.string _)] => true
  | _ => false
def isByteZ : Value → Bool
  | .int .u8 0 => true
  | _ => false
def appS (P : Program) (ts : List TypeId) (args : List AV) (hp : List Blk) (K : AV → List Blk → Prop) : Prop :=
  match ts, args with
  | [t, t'], [d, .v (.string q)] =>
    match P.underlying t', elemOf P t with
    | some .string, some (e, i, z) =>
      bif isByteZ z && (Nat.beq i.size 1 && Nat.beq i.bytes 1) then
        destX hp e 1 z d fun te xs _ hp' =>
          match decEq te (.int .u8) with
          | .isTrue h => bcase (capOk (xs.length + q.size) 1) (q.size ≠ 0 ∧ appRes hp' e (.int .u8) (castRow h xs ++ bytesV q) (xs.length + q.size) true K) False
          | .isFalse _ => False
      else False
    | _, _ => False
  | _, _ => False
theorem bytesV_flat (q : ByteArray) : (bytesV q).flatMap (ET.int .u8).enc.enc = Lib.strCells q := by
  unfold bytesV Lib.strCells
  rw [List.flatMap_map]
  simp only [ET.enc, encI, ← List.map_eq_flatMap]
theorem str_block {t u e ty : TypeId} {i : TypeInfo} (ht : P.underlying t = some (.slice e)) (hu : P.underlying u = some .string) (hi : P.info? e = some i) (hz : i.zero = some (.int .u8 0)) (hs1 : i.size = 1) (hb1 : i.bytes = 1)
    {v : Value} {n : Nat} {xs : List Value} (hown : w.ownsRow B e 1 v n xs) {q : ByteArray} (hm : q.size ≠ 0) (h63 : n + q.size ≤ maxLen) (hbytes : n + q.size ≤ 140737488355328) {v' : Value} {w' : World} (hrun : (Builtin.append_ #[t, u] ty #[v, .string q]).run P w = .ok v' w')
    {g : Nat} (hg' : v'.ownBlock = some g) : v.ownBlock = some g ∨ w.heap.size ≤ g := by
  have hsmall : n + q.size ≤ 9223372036854775807 := by simp only [maxLen] at h63; omega
  rcases hown.2 with ⟨rfl, rfl⟩ | ⟨g0, cap, cur, rfl, hbg, hg, hnc, hcm, hcs, htake⟩
  · have hr := run_append_nil_string (P := P) w t u ty e i (.int .u8 0) ht hu hi hz q (by omega) (by omega) (by rw [hb1]; omega)
    rw [hr] at hrun
    cases hrun
    cases hg'
    exact .inr (Nat.le_refl _)
  · by_cases hroom : n + q.size ≤ cap
    · have hr := Lib.run_append_room_string (P := P) w t u ty e i ht hu hi hs1 g0 n cap cur hg q hroom (by rw [hcs]; omega)
      rw [hr] at hrun
      cases hrun
      exact .inl hg'
    · have holds : ∀ j u, xs[j]? = some u → w.cell? ((⟨g0, 0, none⟩ : Addr).add j) = some u := hown.cells (g := g0) rfl
      have hr := Lib.run_append_grow_string (P := P) w t u ty e i (.int .u8 0) ht hu hi hz ⟨g0, 0, none⟩ n cap xs (by rw [hs1]; exact hown.1) holds q (by omega) (by omega) (growslice_fits (by omega) (by rw [hb1]; omega))
      rw [hr] at hrun
      cases hrun
      cases hg'
      exact .inr (Nat.le_refl _)
theorem appS_run {hp : List Blk} (h : Rel B w0 ρ (hpF hp) w) {ts : Array TypeId} {args : List AV} {vs : List Value} (hr : RL ρ args vs) (ty : TypeId) (cs : Array Bool) {K : AV → List Blk → Prop} (ha : appS P ts.toList args hp K) :
    ∃ av hp' w' ρ' v', Ext ρ ρ' ∧ Rel B w0 ρ' (hpF hp') w' ∧ av.R ρ' v' ∧ K av hp' ∧ (builtin .append ts ty cs vs.toArray).run P w = .ok (.value v') w' := by
  unfold appS at ha
  split at ha
  · rename_i t t' d q hts
    have hts : ts = #[t, t'] := Array.ext' hts
    subst hts
    split at ha
    · rename_i e i z hu he
      cases hg : (isByteZ z && (Nat.beq i.size 1 && Nat.beq i.bytes 1)) with
      | false => simp [hg] at ha
      | true =>
        simp only [hg, cond_true] at ha
        simp only [Bool.and_eq_true] at hg
        obtain ⟨g1, g2, g3⟩ := hg
        have g2 := Nat.eq_of_beq_eq_true g2
        have g3 := Nat.eq_of_beq_eq_true g3
        have g1 : z = .int .u8 0 := by
          unfold isByteZ at g1
          split at g1
          · rfl
          · cases g1
        subst g1
        unfold elemOf at he
        split at he
        · rename_i e' ht
          split at he
          · rename_i i' hi
            split at he
            · rename_i z' hz
              cases he
              match vs, hr with
              | [dv, sv], hr =>
                obtain ⟨hd, hs', _⟩ := hr
                have hs' : sv = .string q := hs'
                subst hs'
                obtain ⟨te, xs, held, hp', ha, D⟩ := destX_run (P := P) h hd ha
                obtain ⟨dlen, dz, down, drel, dbase, dfree, dnn, dnil⟩ := D
                split at ha
                · rename_i hte _
                  subst hte
                  obtain ⟨hcap, hq0, ha⟩ := capOk_1 ha
                  unfold capOk at hcap
                  simp only [Bool.and_eq_true] at hcap
                  have hb1 := Nat.le_of_ble_eq_true hcap.1
                  have hb2 := Nat.le_of_ble_eq_true hcap.2
                  rw [Nat.mul_one] at hb1
                  obtain ⟨v', w', hrun, ho', hgr, hnil⟩ := Lib.run_append_own_string (P := P) w B t t' ty e i ht hu hi hz g2 g3 dv xs.length _ down q hb2 hb1 h.base
                  have hR' := drel.grown hgr dbase (fun j g x q1 q2 q3 => dfree j g x q1 q2 q3) (fun j o q1 q2 => by
                    rcases down.2 with ⟨rfl, _⟩ | ⟨g0, cap, cur, rfl, _, hg0, _⟩
                    · cases q1
                    · have e : g0 = j := by simpa [Value.ownBlock] using q1
                      subst e
                      rw [hg0] at q2
                      cases q2
                      rfl)
                  have hnn : v' ≠ .slice none 0 0 := fun q => hq0 (hnil.1 q).2
                  have hlen : (xs ++ bytesV q).length = xs.length + q.size := by rw [List.length_append, bytesV_length]
                  have ho'' : w'.ownsRow B e (Row.E ⟨.int .u8, xs ++ bytesV q, true⟩).z v' (Row.xs ⟨.int .u8, xs ++ bytesV q, true⟩).length (Row.vals ⟨.int .u8, xs ++ bytesV q, true⟩) := by
                    show w'.ownsRow B e 1 v' (xs ++ bytesV q).length ((xs ++ bytesV q).flatMap (ET.int .u8).enc.enc)
                    rw [hlen, List.flatMap_append, bytesV_flat]
                    exact ho'
                  have hfree' : ∀ j g x, v'.ownBlock = some g → ρ j = some g → hpF hp' j = some x → ¬ x.live := fun j g x q1 q2 q3 q4 => by
                    rcases str_block ht hu hi hz g2 g3 down hq0 hb2 hb1 hrun q1 with q | q
                    · exact dfree j g x q q2 q3 q4
                    · have := drel.lt q2 q3 q4
                      omega
                  obtain ⟨ρ', h1', h2', h3'⟩ := hR'.addRow (k := hp'.length) (hpF_none hp') (by simp [hpF]) (T := e) (r := ⟨.int .u8, xs ++ bytesV q, true⟩) hnn ho'' hfree'
                  have h3' : (AV.rs hp'.length (xs ++ bytesV q).length).R ρ' v' := h3'
                  rw [hlen] at h3'
                  unfold appRes at ha
                  refine ⟨_, _, w', ρ', v', h1', by rw [hpF_new2]; exact h2', h3', ha, ?_⟩
                  unfold builtin
                  simp only [Sem.run_bind]
                  rw [show ([dv, Value.string q].toArray : Array Value) = #[dv, .string q] from rfl, hrun]
                  rfl
                · exact ha.elim
            · cases he
          · cases he
        · cases he
    · exact ha.elim
  · exact ha.elim
def writeX (s : WSpec) (args : List AV) (hp : List Blk) (K : AV → List Blk → Prop) : Prop :=
  match args with
  | [d, .v (.int .i64 i), .s k o n c] =>
    destX hp s.T s.t.enc.z undef d fun t xs _ hp' =>
      match decEq t s.t with
      | .isTrue h =>
        (match hp'[k]? with
        | some b =>
          (match b.row, vals b.cs with
          | none, some l => bif isMine b && (Nat.beq b.T s.T && (Nat.beq o 0 && (Nat.beq b.cs.length (c * s.t.enc.z) && Nat.ble n c))) then
              (match decs s.t.enc n l with
              | some ys => (match s.sp (castRow h xs) i ys with | some (p, zs) => p ∧ appRes hp' s.T s.t zs zs.length true K | none => False)
              | none => False) else False
          | _, _ => False)
        | none => False)
      | .isFalse _ => False
  | _ => False
theorem writeX_run {Φ : World → Prop} {f : FuncId} {s : WSpec} (hs : CSpec.holds P Φ f (.w s)) {hp : List Blk} (h : Rel B w0 ρ (hpF hp) w) {args : List AV} {vs : List Value} (ha : RL ρ args vs) {K : AV → List Blk → Prop} (hw : writeX s args hp K) :
    Calls P f vs.toArray w fun e w' => ∃ ρ' hp' av v, e = .returned v ∧ Ext ρ ρ' ∧ Rel B w0 ρ' (hpF hp') w' ∧ AV.R ρ' av v ∧ K av hp' := by
  unfold writeX at hw
  split at hw
  · rename_i d i k o n c
    match vs, ha with
    | [dv, iv, sv], ha =>
      obtain ⟨hd, hi, hsv, _⟩ := ha
      have hi : iv = .int .i64 i := hi
      subst hi
      obtain ⟨t, xs, held, hp', hw2, D⟩ := destX_run (P := P) h hd hw
      clear hw
      obtain ⟨dlen, dz, down, drel, dbase, dfree, dnn, dnil⟩ := D
      split at hw2
      · rename_i ht _
        subst ht
        split at hw2
        · rename_i b hb
          split at hw2
          · rename_i l hr hv
            cases hm : (isMine b && (Nat.beq b.T s.T && (Nat.beq o 0 && (Nat.beq b.cs.length (c * s.t.enc.z) && Nat.ble n c)))) with
            | false => simp [hm] at hw2
            | true =>
              simp only [hm, cond_true] at hw2
              simp only [Bool.and_eq_true] at hm
              obtain ⟨m1, m2, m3, m4, m5⟩ := hm
              have m1 := isMine_iff m1
              have m2 := Nat.eq_of_beq_eq_true m2
              obtain rfl := Nat.eq_of_beq_eq_true m3
              have m4 := Nat.eq_of_beq_eq_true m4
              have m5 := Nat.le_of_ble_eq_true m5
              split at hw2
              · rename_i ys hy
                split at hw2
                · rename_i p zs hsp
                  obtain ⟨hp1, hK⟩ := hw2
                  obtain ⟨e1, e2⟩ := decs_back hy
                  obtain ⟨v1, v2⟩ := vals_some hv
                  obtain ⟨g, hg, rfl⟩ := hsv
                  have hl : b.live := Blk.live_of m1 hr
                  obtain ⟨_, cs, hL, hf⟩ := drel.blk k g b hg hb hl
                  have h1 := hL.own m1
                  unfold Blk.fit at hf
                  rw [hr] at hf
                  obtain ⟨f1, f2⟩ := hf
                  have hcs : cs.toList = l := by
                    apply List.ext_getElem?
                    intro j
                    by_cases hj : j < l.length
                    · have := f2 j (by omega)
                      rw [v2 j (by omega)] at this
                      have this : cs.getD j undef = l.getD j undef := this
                      have hj' : j < cs.size := by omega
                      simp [List.getD, hj, hj'] at this ⊢
                      exact this
                    · rw [List.getElem?_eq_none (by rw [Array.length_toList]; omega), List.getElem?_eq_none (by omega)]
                  have hne : dv.ownBlock ≠ some g := fun q => dfree k g b q hg hb hl
                  rw [m2] at h1
                  have hsz : cs.size = c * s.t.enc.z := by omega
                  have hcall := hs _ i ys p zs hsp hp1 B w dv g c cs h.base down hne h1 hsz (by omega) (by rw [hcs, ← e1, e2]; exact List.take_of_length_le (by rw [flat_length, e2]; exact Nat.le_refl _))
                  rw [e2] at hcall
                  refine hcall.mono ?_
                  rintro e w' ⟨v', rfl, ho', hgr, hnn, hblk⟩
                  have hR' := drel.grown hgr dbase (fun j g x q1 q2 q3 => dfree j g x q1 q2 q3) (fun j o q1 q2 => by
                    rcases down.2 with ⟨rfl, _⟩ | ⟨g0, cap, cur, rfl, _, hg0, _⟩
                    · cases q1
                    · have e : g0 = j := by simpa [Value.ownBlock] using q1
                      subst e
                      rw [hg0] at q2
                      cases q2
                      rfl)
                  have hfree' : ∀ j g x, v'.ownBlock = some g → ρ j = some g → hpF hp' j = some x → ¬ x.live := fun j g x q1 q2 q3 q4 => by
                    rcases hblk g q1 with q | q
                    · exact dfree j g x q q2 q3 q4
                    · have := drel.lt q2 q3 q4
                      omega
                  obtain ⟨ρ', h1', h2', h3'⟩ := hR'.addRow (k := hp'.length) (hpF_none hp') (by simp [hpF]) (T := s.T) (r := ⟨s.t, zs, true⟩) hnn ho' hfree'
                  exact ⟨ρ', _, _, v', rfl, h1', by rw [hpF_new2]; exact h2', h3', hK⟩
                · exact hw2.elim
              · exact hw2.elim
          · exact hw2.elim
        · exact hw2.elim
      · exact hw2.elim
  · exact hw.elim
def cloneX (s : OSpec) (args : List AV) (hp : List Blk) (K : AV → List Blk → Prop) : Prop :=
  match args with
  | [a] => srcY hp s.T s.t a fun m ys _ => (ys ≠ [] ∧ s.ok ys) ∧ appRes hp s.T s.t ys m true K
  | _ => False
theorem cloneX_run {Φ : World → Prop} {f : FuncId} {s : OSpec} (hs : CSpec.holds P Φ f (.o s)) (hΦ : Φ w) {hp : List Blk} (h : Rel B w0 ρ (hpF hp) w) {args : List AV} {vs : List Value} (ha : RL ρ args vs) {K : AV → List Blk → Prop} (hw : cloneX s args hp K) :
    Calls P f vs.toArray w fun e w' => ∃ ρ' hp' av v, e = .returned v ∧ Ext ρ ρ' ∧ Rel B w0 ρ' (hpF hp') w' ∧ AV.R ρ' av v ∧ K av hp' := by
  unfold cloneX at hw
  split at hw
  · rename_i a
    match vs, ha with
    | [v], ha =>
      obtain ⟨m, ys, pos, ⟨⟨hne, hok⟩, hK⟩, hym, _, hH⟩ := srcY_run (B := B) (w0 := w0) hw
      refine (hs ys hne hok w v hΦ (hH h (fun _ _ _ q => q) ha.1)).mono ?_
      rintro e w' ⟨v', rfl, hb, ho, hnn⟩
      have hR' := h.later hb
      have ho' : w'.ownsRow B s.T s.t.enc.z v' ys.length (ys.flatMap s.t.enc.enc) := ⟨ho.1, by
        rcases ho.2 with q | ⟨g, cap, cur, q1, q2, q3⟩
        · exact .inl q
        · exact .inr ⟨g, cap, cur, q1, Nat.le_trans h.base q2, q3⟩⟩
      have hfree' : ∀ j g x, v'.ownBlock = some g → ρ j = some g → hpF hp j = some x → ¬ x.live := fun j g x q1 q2 q3 q4 => by
        have := h.lt q2 q3 q4
        have := (ho.lt g q1).1
        omega
      obtain ⟨ρ', h1', h2', h3'⟩ := hR'.addRow (k := hp.length) (hpF_none hp) (by simp [hpF]) (T := s.T) (r := ⟨s.t, ys, true⟩) hnn ho' hfree'
      rw [← hym] at hK
      exact ⟨ρ', _, _, v', rfl, h1', by rw [hpF_new2]; exact h2', h3', hK⟩
  · exact hw.elim
def pArgs (args : List AV) (hp : List Blk) : Option (Nat × List Value × List Value) :=
  match args with
  | .p k 0 :: l =>
    match hp[k]?, vals l with
    | some b, some vs => (match b.own, b.row, vals b.cs with | some true, none, some c => some (k, vs, c) | _, _, _ => none)
    | _, _ => none
  | _ => none
theorem RL_ofA : ∀ {l : List AV} {vs : List Value}, l.length = vs.length → (∀ o, o < l.length → (lget l o).R ρ (vs.getD o undef)) → RL ρ l vs
  | [], [], _, _ => trivial
  | [], _ :: _, h, _ => by simp at h
  | _ :: _, [], h, _ => by simp at h
  | a :: l, v :: vs, h, k => ⟨by have := k 0 (by simp); simpa [lget] using this, RL_ofA (by simpa using h) fun o ho => by have := k (o + 1) (by simpa using ho); simpa [lget] using this⟩
theorem pArgs_run {H : Nat → Option Blk} {hp : List Blk} (hR : Rel B w0 ρ H w) {args : List AV} {vs : List Value} {k : Nat} {as c : List Value} (h : pArgs args hp = some (k, as, c)) (ha : RL ρ args vs) (hH : ∀ b, hp[k]? = some b → H k = some b) :
    ∃ n T, vs = Value.pointer (some ⟨n, 0, none⟩) :: as ∧ w.heap[n]? = some (.cells c.toArray T (0, 0)) := by
  unfold pArgs at h
  split at h
  · rename_i k' l
    split at h
    · rename_i b vs' hb hv
      split at h
      · rename_i c' ho hrow hc
        cases h
        cases vs with
        | nil => exact ha.elim
        | cons v vs =>
          obtain ⟨n, hn, hv0⟩ := ha.1
          have hv0 : v = .pointer (some ⟨n, 0, none⟩) := hv0
          have hHk := hH b hb
          have hlive : b.live := Blk.live_of ho hrow
          obtain ⟨_, cs', hL, hf⟩ := hR.blk _ n b hn hHk hlive
          have hw := hL.own ho
          refine ⟨n, b.T, by rw [hv0, vals_R hv ha.2], ?_⟩
          unfold Blk.fit at hf
          rw [hrow] at hf
          have e := vals_R hc (RL_ofA (ρ := ρ) (l := b.cs) (vs := cs'.toList) (by simpa using hf.1.symm) fun o ho' => by
            have := hf.2 o ho'
            simpa [Array.getD_eq_getD_getElem?, List.getD] using this)
          rw [hw, ← e]
      · cases h
    · cases h
  · cases h
def callX (P : Program) (Γ : List (FuncId × CSpec)) (inl : Inl) (rows : Bool) (g : FuncId) (args : List AV) (hp : List Blk) (K : AV → List Blk → Prop) : Prop :=
  match spec Γ g with
  | some (.v s) =>
    match vals args with
    | some l => match s l with | some (p, v) => p ∧ K (.v v) hp | none => False
    | none => False
  | some (.r s) => bif rows then callR P hp g args s (fun a l => K a (hp ++ l)) else False
  | some (.q s) =>
    match vals args with
    | some l => match s l with | some (p, Q) => p ∧ Q (fun v => K (.v v) hp) | none => False
    | none => False
  | some (.e _) => False
  | some (.w s) => bif rows then writeX s args hp K else False
  | some (.o s) => bif rows then cloneX s args hp K else False
  | some (.i s) => bif rows then s args hp K else False
  | some (.k _) => inl g args hp K
  | some (.p s) => bif rows then (match pArgs args hp with | some (_, as, c) => (match s as c with | some (p, v) => p ∧ K (.v v) hp | none => False) | none => False) else False
  | none => inl g args hp K
def extX (Γ : List (FuncId × CSpec)) (g : FuncId) (args : List AV) (K : Value → Prop) : Option Prop :=
  match spec Γ g with
  | some (.e s) =>
    match vals args with
    | some l => match s l with | some (p, Q) => some (p ∧ Q K) | none => some False
    | none => some False
  | _ => none
theorem extX_run {Φ : World → Prop} {Γ : List (FuncId × CSpec)} (hΓ : Sound P Φ Γ) {g : FuncId} {args : List AV} {K : Value → Prop} {p : Prop} (hx : extX Γ g args K = some p) (h : p) :
    ∃ v, K v ∧ ∀ {ρ : Nat → Option Nat} {vs : List Value}, RL ρ args vs → ∀ w, (callFunc g vs.toArray).run P w = .ok (.value v) w := by
  unfold extX at hx
  split at hx
  · rename_i s hs
    cases hv : vals args with
    | none => simp only [hv] at hx; cases hx; exact h.elim
    | some l =>
      simp only [hv] at hx
      cases hp : s l with
      | none => simp only [hp] at hx; cases hx; exact h.elim
      | some q =>
        obtain ⟨p', Q⟩ := q
        simp only [hp] at hx
        cases hx
        obtain ⟨v, hk, hr⟩ := (hΓ g _ hs).2 l p' Q hp h.1 K h.2
        exact ⟨v, hk, fun {ρ vs} ha w => by rw [vals_R hv ha]; exact hr w⟩
  · cases hx
theorem callX_sound {Φ : World → Prop} {Γ : List (FuncId × CSpec)} {inl : Inl} {rows : Bool} (hΓ : Sound P Φ Γ) (hΦ : ∀ w, Below B w0 w → B ≤ w.heap.size → Φ w) (hi : InlSound P B w0 inl)
    {g : FuncId} {args : List AV} {vs : List Value} {K : AV → List Blk → Prop} (hR : Rel B w0 ρ (hpF hp) w) (ha : RL ρ args vs) (h : callX P Γ inl rows g args hp K) : Callable P g ∧
    Calls P g vs.toArray w fun e w' => ∃ ρ' hp' av v, e = .returned v ∧ Ext ρ ρ' ∧ Rel B w0 ρ' (hpF hp') w' ∧ AV.R ρ' av v ∧ K av hp' := by
  unfold callX at h
  cases hs : spec Γ g with
  | none => simp only [hs] at h; exact hi _ _ _ _ _ _ _ h hR ha
  | some s =>
    cases s with
    | v s =>
      simp only [hs] at h
      cases hv : vals args with
      | none => simp [hv] at h
      | some l =>
        simp only [hv] at h
        cases hp : s l with
        | none => simp [hp] at h
        | some q =>
          obtain ⟨p, v⟩ := q
          simp only [hp] at h
          obtain ⟨h1, h2⟩ := hΓ g _ hs
          refine ⟨h1, ?_⟩
          rw [vals_R hv ha]
          refine (h2 l p v hp h.1 w (hΦ w hR.below hR.base)).mono ?_
          rintro e w' ⟨rfl, hb⟩
          exact ⟨ρ, _, .v v, v, rfl, Ext.refl ρ, hR.later hb, rfl, h.2⟩
    | r s =>
      simp only [hs] at h
      cases rows with
      | false => simp at h
      | true =>
        simp only [cond_true] at h
        obtain ⟨h1, h2⟩ := hΓ g _ hs
        refine ⟨h1, ?_⟩
        obtain ⟨av, l, hk, hc⟩ := callR_val (B := B) (w0 := w0) h2 h
        refine (hc (hΦ w hR.below hR.base) hR (fun k _ b q => q) (fun i q1 q2 => List.getElem?_eq_none q1) ha).mono fun e w' hq => ?_
        obtain ⟨ρ', v, he, e1, e2, e3⟩ := hq
        exact ⟨ρ', hp ++ l, av, v, he, e1, by rw [hpF_updL]; exact e2, e3, hk⟩
    | e s => simp only [hs] at h
    | w s =>
      simp only [hs] at h
      cases rows with
      | false => simp at h
      | true =>
        simp only [cond_true] at h
        obtain ⟨h1, h2⟩ := hΓ g _ hs
        exact ⟨h1, writeX_run h2 hR ha h⟩
    | o s =>
      simp only [hs] at h
      cases rows with
      | false => simp at h
      | true =>
        simp only [cond_true] at h
        obtain ⟨h1, h2⟩ := hΓ g _ hs
        exact ⟨h1, cloneX_run h2 (hΦ w hR.below hR.base) hR ha h⟩
    | i s =>
      simp only [hs] at h
      cases rows with
      | false => simp at h
      | true =>
        simp only [cond_true] at h
        obtain ⟨h1, h2⟩ := hΓ g _ hs
        exact ⟨h1, h2 B w0 _ _ _ _ _ _ h (hΦ w hR.below hR.base) hR ha⟩
    | k s => simp only [hs] at h; exact hi _ _ _ _ _ _ _ h hR ha
    | p s =>
      simp only [hs] at h
      cases rows with
      | false => simp at h
      | true =>
        simp only [cond_true] at h
        split at h
        · rename_i k as c hpa
          split at h
          · rename_i p v hsp
            obtain ⟨h1, h2⟩ := hΓ g _ hs
            refine ⟨h1, ?_⟩
            obtain ⟨n, T, hvs, hw⟩ := pArgs_run hR hpa ha fun b hb => hb
            rw [hvs]
            refine (h2 as c p v hsp h.1 w n T (hΦ w hR.below hR.base) hw).mono ?_
            rintro e w' ⟨rfl, hb⟩
            exact ⟨ρ, _, .v v, v, rfl, Ext.refl ρ, hR.later hb, rfl, h.2⟩
          · exact h.elim
        · exact h.elim
    | q s =>
      simp only [hs] at h
      cases hv : vals args with
      | none => simp [hv] at h
      | some l =>
        simp only [hv] at h
        cases hp : s l with
        | none => simp [hp] at h
        | some q =>
          obtain ⟨p, Q⟩ := q
          simp only [hp] at h
          obtain ⟨h1, h2⟩ := hΓ g _ hs
          refine ⟨h1, ?_⟩
          obtain ⟨v, hA, hK⟩ := h2 l p Q hp h.1 _ h.2
          rw [vals_R hv ha]
          refine (hA w (hΦ w hR.below hR.base)).mono ?_
          rintro e w' ⟨rfl, hb⟩
          exact ⟨ρ, _, .v v, v, rfl, Ext.refl ρ, hR.later hb, rfl, hK⟩
def opX (P : Program) (Γ : List (FuncId × CSpec)) (inl : Inl) (rows : Bool) (o : Oper) (st : AS) (K : AV → List Blk → Prop) : Prop :=
  match o.op with
  | .move x | .assign x => K (ev st.tm x) st.hp
  | .pick c a b => match ev st.tm c with | .v (.bool t) => bcase t (K (ev st.tm a) st.hp) (K (ev st.tm b) st.hp) | _ => False
  | .alloc T => match P.info? T with | some i => (match i.zero with | some z => K (.p st.hp.length 0) (st.hp ++ [⟨T, z.cells.toList.map .v, some true, none⟩]) | none => False) | none => False
  | .box T x => match cellsOf (ev st.tm x) with | some l => K (.p st.hp.length 0) (st.hp ++ [⟨T, l, some true, none⟩]) | none => False
  | .load t x => match ev st.tm x with | .p k i => (match loadX P st.hp t k i with | some a => K a st.hp | none => False) | .e k j z f => (match st.hp[k]? with | some b => loadE P b t j z f fun a => K a st.hp | none => False) | .fe k j z f => (match st.hp[k]? with | some b => loadF P b t j z f fun a => K a st.hp | none => False) | _ => False
  | .store t x y => match ev st.tm x with | .p k i => (match storeX P st.hp t k i (ev st.tm y) with | some hp => K (.v undef) hp | none => False) | .e k j z f => (match st.hp[k]? with | some b => storeE P b t j z f (ev st.tm y) fun b' => K (.v undef) (bset st.hp k b') | none => False) | _ => False
  | .fieldAddr s x f => match ev st.tm x with | .p k i => (match fieldX P s f with | some d => K (.p k (i + d)) st.hp | none => False) | .e k j z i => (match fieldX P s f with | some d => K (.e k j z (i + d)) st.hp | none => False) | .fe k j z i => (match fieldX P s f with | some d => K (.fe k j z (i + d)) st.hp | none => False) | _ => gen P o st K
  | .nilCheck x => match ev st.tm x with | .p k i => K (.p k i) st.hp | .c f l => K (.c f l) st.hp | _ => gen P o st K
  | .makeFunc fn first caps =>
    match fn, first.toList, ptrsOf (caps.toList.map (ev st.tm)) with
    | .func g, [], some l => K (.c g l) st.hp
    | _, _, _ => gen P o st K
  | .binOp op t x y _ => binX P o op t (ev st.tm x) (ev st.tm y) st K
  | .call c =>
    match c.callee with
    | .value f =>
      match ev st.tm f with
      | .v (.func (.func g) first caps) =>
        match extX Γ g (first.toList.map .v ++ c.args.toList.map (ev st.tm) ++ caps.toList.map .v) (fun v => K (.v v) st.hp) with
        | some p => p
        | none => callX P Γ inl rows g (first.toList.map .v ++ c.args.toList.map (ev st.tm) ++ caps.toList.map .v) st.hp K
      | .c g l => callX P Γ inl rows g (c.args.toList.map (ev st.tm) ++ l.map fun q => .p q.1 q.2) st.hp K
      | _ => False
    | .builtin b => bif isApp b then (bif isStrA (c.args.toList.map (ev st.tm)) then appS P c.argTypes.toList (c.args.toList.map (ev st.tm)) st.hp K else appX2 P c.argTypes.toList (c.args.toList.map (ev st.tm)) st.hp K) else match lenX P b c.argTypes (c.args.toList.map (ev st.tm)) with | some n => K (.v (.int .i64 n)) st.hp | none => gen P o st K
    | .invoke _ _ => False
  | .indexAddr t x i => indexX P st.hp t (ev st.tm x) (ev st.tm i) (fun a => K a st.hp) (gen P o st K)
  | .buildSlice t len parts => match partsX P t len parts st.tm with | some (e, cells) => K (.s st.hp.length 0 len len) (st.hp ++ [⟨e, cells.toList.map .v, some true, none⟩]) | none => False
  | .makeSlice t x y => makeX P t (ev st.tm x) (ev st.tm y) st.hp K
  | .convert s d x => convX P st.hp s d (ev st.tm x) (fun a hp _ => K a hp) (gen P o st K)
  | .select _ _ => False
  | _ => valOp P o st.tm (fun a => K a st.hp) (gen P o st K)
end
end Go.Abs
