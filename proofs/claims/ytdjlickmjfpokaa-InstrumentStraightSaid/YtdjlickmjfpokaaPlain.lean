/- The plain words of the instrument's proofs: lists of entries, which of them are valid, and the correction that they give. No program is in sight here. -/
import Derived.Test.YtdjlickmjfpokaaBase
namespace Go.Proofs.Ytdjlickmjfpokaa
open Go Go.RowKit

/-- The reading, and the value, of entry k. -/
def atAt (l : List (Int × Int)) (k : Nat) : Int := (l.getD k (0, 0)).1
def valAt (l : List (Int × Int)) (k : Nat) : Int := (l.getD k (0, 0)).2

/-- Entry k may stand where it stands. -/
def OkEnt (l : List (Int × Int)) (k : Nat) : Prop :=
  0 ≤ atAt l k ∧ atAt l k ≤ 7800000 ∧ -10000 ≤ valAt l k ∧ valAt l k ≤ 10000 ∧
    (0 < k → atAt l (k - 1) < atAt l k ∧ -(atAt l k - atAt l (k - 1)) ≤ 10 * (valAt l k - valAt l (k - 1)) ∧ 10 * (valAt l k - valAt l (k - 1)) ≤ atAt l k - atAt l (k - 1))
instance (l : List (Int × Int)) (k : Nat) : Decidable (OkEnt l k) := by unfold OkEnt; infer_instance

def Valid18 (idx : Int) (l : List (Int × Int)) : Prop := -60000 ≤ idx ∧ idx ≤ 60000 ∧ l.length ≤ 40 ∧ ∀ k, k < l.length → OkEnt l k
instance (idx : Int) (l : List (Int × Int)) : Decidable (Valid18 idx l) := by unfold Valid18; infer_instance
def vldB (idx : Int) (l : List (Int × Int)) : Bool := decide (Valid18 idx l)

/-- The slice at block b, place off, holds the entries l. -/
def Ents (w : World) (b off : Nat) (l : List (Int × Int)) : Prop :=
  b < w.heap.size ∧ ∀ k, k < l.length → w.cell? ⟨b, off + k * 2, none⟩ = some (.int .i64 (atAt l k)) ∧ w.cell? ⟨b, off + k * 2 + 1, none⟩ = some (.int .i64 (valAt l k))
theorem Ents.below {w w' : World} {b off : Nat} {l : List (Int × Int)} (h : Ents w b off l) {B : Nat} (hb : Below B w w') (hB : b < B) : Ents w' b off l :=
  ⟨Nat.lt_of_lt_of_le h.1 hb.size, fun k hk => ⟨(hb.cell (p := ⟨b, off + k * 2, none⟩) hB).trans (h.2 k hk).1, (hb.cell (p := ⟨b, off + k * 2 + 1, none⟩) hB).trans (h.2 k hk).2⟩⟩
/-- A slice at A (nil, or not) that holds the entries l. -/
def Tab (w : World) (A : Option Addr) (l : List (Int × Int)) : Prop := 0 < l.length → ∃ b off, A = some ⟨b, off, none⟩ ∧ Ents w b off l
theorem Tab.below {w w' : World} {A : Option Addr} {l : List (Int × Int)} (h : Tab w A l) {B : Nat} (hb : Below B w w') (hB : w.heap.size ≤ B) : Tab w' A l := by
  intro hl
  obtain ⟨b, off, hA, he⟩ := h hl
  exact ⟨b, off, hA, he.below hb (Nat.lt_of_lt_of_le he.1 hB)⟩
theorem Tab.alloc {w : World} {A : Option Addr} {l : List (Int × Int)} (h : Tab w A l) (o : Obj) : Tab (w.alloc o) A l := h.below ((Below.refl w.heap.size w).alloc (Nat.le_refl _) o) (Nat.le_refl _)

/-- The readings ascend. -/
def Asc (l : List (Int × Int)) : Prop := ∀ i j, i < j → j < l.length → atAt l i < atAt l j
theorem asc_of {idx : Int} {l : List (Int × Int)} (h : Valid18 idx l) : Asc l := by
  intro i j hij hj
  induction j with
  | zero => omega
  | succ j ih =>
    have h1 := ((h.2.2.2 (j + 1) hj).2.2.2.2 (by omega)).1
    simp at h1
    rcases Nat.lt_or_ge i j with h2 | h2
    · have := ih h2 (by omega); omega
    · obtain rfl : i = j := by omega
      exact h1

/-- Where the search for a reading ends: all entries before it are less, the others are not. -/
def Found (l : List (Int × Int)) (hs : Int) (p : Nat) : Prop :=
  p ≤ l.length ∧ (∀ k, k < p → atAt l k < hs) ∧ ∀ k, p ≤ k → k < l.length → hs ≤ atAt l k
theorem Found.uniq {l : List (Int × Int)} {hs : Int} {p q : Nat} (h : Found l hs p) (g : Found l hs q) : p = q := by
  obtain ⟨h1, h2, h3⟩ := h
  obtain ⟨g1, g2, g3⟩ := g
  rcases Nat.lt_trichotomy p q with hl | hl | hl
  · have := g2 p hl; have := h3 p (Nat.le_refl _) (by omega); omega
  · exact hl
  · have := h2 q hl; have := g3 q (Nat.le_refl _) (by omega); omega
def there (l : List (Int × Int)) (hs : Int) (p : Nat) : Bool := decide (p < l.length ∧ atAt l p = hs)
theorem there_lt {l : List (Int × Int)} {hs : Int} {p : Nat} (h : p < l.length) : (atAt l p - hs == 0) = there l hs p := by
  unfold there
  rw [Bool.eq_iff_iff]
  simp [h]
  omega
theorem there_ge {l : List (Int × Int)} {hs : Int} {p : Nat} (h : ¬ p < l.length) : false = there l hs p := by
  unfold there
  simp [h]

/-- The error of the arc at a reading, where the search ended at p. -/
def arcLo (l : List (Int × Int)) (hs : Int) (p : Nat) : Int :=
  if l.length = 0 then 0 else if there l hs p = true ∨ p = 0 then valAt l p else if p = l.length then valAt l (p - 1)
  else (valAt l (p - 1) * (atAt l p - atAt l (p - 1)) + (valAt l p - valAt l (p - 1)) * (hs - atAt l (p - 1))) / (atAt l p - atAt l (p - 1))
def arcHi (l : List (Int × Int)) (hs : Int) (p : Nat) : Int :=
  if l.length = 0 then 0 else if there l hs p = true ∨ p = 0 then valAt l p else if p = l.length then valAt l (p - 1)
  else -(-(valAt l (p - 1) * (atAt l p - atAt l (p - 1)) + (valAt l p - valAt l (p - 1)) * (hs - atAt l (p - 1))) / (atAt l p - atAt l (p - 1)))
def arcNum (l : List (Int × Int)) (hs : Int) (p : Nat) : Int := valAt l (p - 1) * (atAt l p - atAt l (p - 1)) + (valAt l p - valAt l (p - 1)) * (hs - atAt l (p - 1))
theorem arc_at {l : List (Int × Int)} {hs : Int} {p : Nat} (hl : 0 < l.length) (h : there l hs p = true ∨ p = 0) : arcLo l hs p = valAt l p ∧ arcHi l hs p = valAt l p := by
  unfold arcLo arcHi
  rw [if_neg (by omega), if_pos h, if_neg (by omega), if_pos h]
  exact ⟨rfl, rfl⟩
theorem arc_end {l : List (Int × Int)} {hs : Int} (hl : 0 < l.length) (h : there l hs l.length = false) : arcLo l hs l.length = valAt l (l.length - 1) ∧ arcHi l hs l.length = valAt l (l.length - 1) := by
  unfold arcLo arcHi
  rw [if_neg (by omega), if_neg (fun hh => hh.elim (fun hh => by rw [h] at hh; cases hh) (fun hh => by omega)), if_pos rfl, if_neg (by omega), if_neg (fun hh => hh.elim (fun hh => by rw [h] at hh; cases hh) (fun hh => by omega)), if_pos rfl]
  exact ⟨rfl, rfl⟩
theorem arc_mid {l : List (Int × Int)} {hs : Int} {p : Nat} (hp : 0 < p) (hl : p < l.length) (h : there l hs p = false) :
    arcLo l hs p = arcNum l hs p / (atAt l p - atAt l (p - 1)) ∧ arcHi l hs p = -(-arcNum l hs p / (atAt l p - atAt l (p - 1))) := by
  unfold arcLo arcHi arcNum
  rw [if_neg (by omega), if_neg (fun hh => hh.elim (fun hh => by rw [h] at hh; cases hh) (fun hh => by omega)), if_neg (by omega), if_neg (by omega), if_neg (fun hh => hh.elim (fun hh => by rw [h] at hh; cases hh) (fun hh => by omega)), if_neg (by omega)]
  exact ⟨rfl, rfl⟩
end Go.Proofs.Ytdjlickmjfpokaa
