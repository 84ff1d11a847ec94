/- Several texts in one: Plain, Plain2, WalkA, WalkB, WalkC, WalkD, WalkE, Refs, WalkF. -/
import Derived.Test.YtkcelhhhbbpbpaaDoorBase
import Derived.Test.YtkcelhhhbbpbpaaDoorRows
import Derived.WalkKit
import Derived.WalkLawsBesides
import Derived.WalkSpells
import Derived.BigQuiet
import Derived.Deep.QuietTactic
import Derived.Outline
import Derived.Handy
import Derived.Deep.RegionWith
/- The plain words of the instrument's proofs: lists of entries, which of them are valid, and the correction that they give. No program is in sight here. -/
namespace Go.Proofs.YtkcelhhhbbpbpaaDoor
open Go Go.RowKit

/-- The reading, and the value, of entry k. -/
def atAt (l : List (Int × Int)) (k : Nat) : Int := (l.getD k (0, 0)).1
def valAt (l : List (Int × Int)) (k : Nat) : Int := (l.getD k (0, 0)).2

/-- Entry k may stand where it stands. -/
def OkEnt (l : List (Int × Int)) (k : Nat) : Prop :=
  0 ≤ atAt l k ∧ atAt l k ≤ 7800000 ∧ -10000 ≤ valAt l k ∧ valAt l k ≤ 10000 ∧
    (0 < k → atAt l (k - 1) < atAt l k ∧ -(atAt l k - atAt l (k - 1)) ≤ 10 * (valAt l k - valAt l (k - 1)) ∧ 10 * (valAt l k - valAt l (k - 1)) ≤ atAt l k - atAt l (k - 1))
instance (l : List (Int × Int)) (k : Nat) : Decidable (OkEnt l k) := by unfold OkEnt; infer_instance

def Valid18 (idx : Int) (l : List (Int × Int)) : Prop := -60000 ≤ idx ∧ idx ≤ 60000 ∧ l.length ≤ 40 ∧ ∀ k, k < l.length → OkEnt l k
instance (idx : Int) (l : List (Int × Int)) : Decidable (Valid18 idx l) := by unfold Valid18; infer_instance
def vldB (idx : Int) (l : List (Int × Int)) : Bool := decide (Valid18 idx l)

/-- The slice at block b, place off, holds the entries l. -/
def Ents (w : World) (b off : Nat) (l : List (Int × Int)) : Prop :=
  b < w.heap.size ∧ ∀ k, k < l.length → w.cell? ⟨b, off + k * 2, none⟩ = some (.int .i64 (atAt l k)) ∧ w.cell? ⟨b, off + k * 2 + 1, none⟩ = some (.int .i64 (valAt l k))
theorem Ents.below {w w' : World} {b off : Nat} {l : List (Int × Int)} (h : Ents w b off l) {B : Nat} (hb : Below B w w') (hB : b < B) : Ents w' b off l :=
  ⟨Nat.lt_of_lt_of_le h.1 hb.size, fun k hk => ⟨(hb.cell (p := ⟨b, off + k * 2, none⟩) hB).trans (h.2 k hk).1, (hb.cell (p := ⟨b, off + k * 2 + 1, none⟩) hB).trans (h.2 k hk).2⟩⟩
/-- A slice at A (nil, or not) that holds the entries l. -/
def Tab (w : World) (A : Option Addr) (l : List (Int × Int)) : Prop := 0 < l.length → ∃ b off, A = some ⟨b, off, none⟩ ∧ Ents w b off l
theorem Tab.below {w w' : World} {A : Option Addr} {l : List (Int × Int)} (h : Tab w A l) {B : Nat} (hb : Below B w w') (hB : w.heap.size ≤ B) : Tab w' A l := by
  intro hl
  obtain ⟨b, off, hA, he⟩ := h hl
  exact ⟨b, off, hA, he.below hb (Nat.lt_of_lt_of_le he.1 hB)⟩
theorem Tab.alloc {w : World} {A : Option Addr} {l : List (Int × Int)} (h : Tab w A l) (o : Obj) : Tab (w.alloc o) A l := h.below ((Below.refl w.heap.size w).alloc (Nat.le_refl _) o) (Nat.le_refl _)

/-- The readings ascend. -/
def Asc (l : List (Int × Int)) : Prop := ∀ i j, i < j → j < l.length → atAt l i < atAt l j
theorem asc_of {idx : Int} {l : List (Int × Int)} (h : Valid18 idx l) : Asc l := by
  intro i j hij hj
  induction j with
  | zero => omega
  | succ j ih =>
    have h1 := ((h.2.2.2 (j + 1) hj).2.2.2.2 (by omega)).1
    simp at h1
    rcases Nat.lt_or_ge i j with h2 | h2
    · have := ih h2 (by omega); omega
    · obtain rfl : i = j := by omega
      exact h1

/-- Where the search for a reading ends: all entries before it are less, the others are not. -/
def Found (l : List (Int × Int)) (hs : Int) (p : Nat) : Prop :=
  p ≤ l.length ∧ (∀ k, k < p → atAt l k < hs) ∧ ∀ k, p ≤ k → k < l.length → hs ≤ atAt l k
theorem Found.uniq {l : List (Int × Int)} {hs : Int} {p q : Nat} (h : Found l hs p) (g : Found l hs q) : p = q := by
  obtain ⟨h1, h2, h3⟩ := h
  obtain ⟨g1, g2, g3⟩ := g
  rcases Nat.lt_trichotomy p q with hl | hl | hl
  · have := g2 p hl; have := h3 p (Nat.le_refl _) (by omega); omega
  · exact hl
  · have := h2 q hl; have := g3 q (Nat.le_refl _) (by omega); omega
def there (l : List (Int × Int)) (hs : Int) (p : Nat) : Bool := decide (p < l.length ∧ atAt l p = hs)
theorem there_lt {l : List (Int × Int)} {hs : Int} {p : Nat} (h : p < l.length) : (atAt l p - hs == 0) = there l hs p := by
  unfold there
  rw [Bool.eq_iff_iff]
  simp [h]
  omega
theorem there_ge {l : List (Int × Int)} {hs : Int} {p : Nat} (h : ¬ p < l.length) : false = there l hs p := by
  unfold there
  simp [h]

/-- The error of the arc at a reading, where the search ended at p. -/
def arcLo (l : List (Int × Int)) (hs : Int) (p : Nat) : Int :=
  if l.length = 0 then 0 else if there l hs p = true ∨ p = 0 then valAt l p else if p = l.length then valAt l (p - 1)
  else (valAt l (p - 1) * (atAt l p - atAt l (p - 1)) + (valAt l p - valAt l (p - 1)) * (hs - atAt l (p - 1))) / (atAt l p - atAt l (p - 1))
def arcHi (l : List (Int × Int)) (hs : Int) (p : Nat) : Int :=
  if l.length = 0 then 0 else if there l hs p = true ∨ p = 0 then valAt l p else if p = l.length then valAt l (p - 1)
  else -(-(valAt l (p - 1) * (atAt l p - atAt l (p - 1)) + (valAt l p - valAt l (p - 1)) * (hs - atAt l (p - 1))) / (atAt l p - atAt l (p - 1)))
def arcNum (l : List (Int × Int)) (hs : Int) (p : Nat) : Int := valAt l (p - 1) * (atAt l p - atAt l (p - 1)) + (valAt l p - valAt l (p - 1)) * (hs - atAt l (p - 1))
theorem arc_at {l : List (Int × Int)} {hs : Int} {p : Nat} (hl : 0 < l.length) (h : there l hs p = true ∨ p = 0) : arcLo l hs p = valAt l p ∧ arcHi l hs p = valAt l p := by
  unfold arcLo arcHi
  rw [if_neg (by omega), if_pos h, if_neg (by omega), if_pos h]
  exact ⟨rfl, rfl⟩
theorem arc_end {l : List (Int × Int)} {hs : Int} (hl : 0 < l.length) (h : there l hs l.length = false) : arcLo l hs l.length = valAt l (l.length - 1) ∧ arcHi l hs l.length = valAt l (l.length - 1) := by
  unfold arcLo arcHi
  rw [if_neg (by omega), if_neg (fun hh => hh.elim (fun hh => by rw [h] at hh; cases hh) (fun hh => by omega)), if_pos rfl, if_neg (by omega), if_neg (fun hh => hh.elim (fun hh => by rw [h] at hh; cases hh) (fun hh => by omega)), if_pos rfl]
  exact ⟨rfl, rfl⟩
theorem arc_mid {l : List (Int × Int)} {hs : Int} {p : Nat} (hp : 0 < p) (hl : p < l.length) (h : there l hs p = false) :
    arcLo l hs p = arcNum l hs p / (atAt l p - atAt l (p - 1)) ∧ arcHi l hs p = -(-arcNum l hs p / (atAt l p - atAt l (p - 1))) := by
  unfold arcLo arcHi arcNum
  rw [if_neg (by omega), if_neg (fun hh => hh.elim (fun hh => by rw [h] at hh; cases hh) (fun hh => by omega)), if_neg (by omega), if_neg (by omega), if_neg (fun hh => hh.elim (fun hh => by rw [h] at hh; cases hh) (fun hh => by omega)), if_neg (by omega)]
  exact ⟨rfl, rfl⟩
end Go.Proofs.YtkcelhhhbbpbpaaDoor

/- Where a reading stands among the entries, as a function; the correction. No program is in sight here. -/
namespace Go.Proofs.YtkcelhhhbbpbpaaDoor
open Go Go.RowKit

noncomputable def pos (l : List (Int × Int)) (hs : Int) : Nat := Classical.epsilon (Found l hs)
theorem Found.pos {l : List (Int × Int)} {hs : Int} {p : Nat} (h : Found l hs p) : p = pos l hs := h.uniq (Classical.epsilon_spec ⟨p, h⟩)
noncomputable def cLo (l : List (Int × Int)) (hs : Int) : Int := arcLo l hs (pos l hs)
noncomputable def cHi (l : List (Int × Int)) (hs : Int) : Int := arcHi l hs (pos l hs)
/-- There is such a place in every list. -/
theorem found_ex (l : List (Int × Int)) (hs : Int) (hA : Asc l) : ∃ p, Found l hs p := by
  have H : ∀ n, n ≤ l.length → ∃ p, p ≤ n ∧ (∀ k, k < p → atAt l k < hs) ∧ ∀ k, p ≤ k → k < n → hs ≤ atAt l k := by
    intro n
    induction n with
    | zero => exact fun _ => ⟨0, Nat.le_refl _, fun k hk => by omega, fun k h1 h2 => by omega⟩
    | succ n ih =>
      intro hn
      obtain ⟨p, h1, h2, h3⟩ := ih (by omega)
      by_cases hp : p = n
      · by_cases hc : atAt l n < hs
        · refine ⟨n + 1, Nat.le_refl _, fun k hk => ?_, fun k h1 h2 => by omega⟩
          by_cases hkn : k = n
          · subst hkn; exact hc
          · exact h2 k (by omega)
        · refine ⟨n, by omega, fun k hk => h2 k (by omega), fun k h1 h2 => ?_⟩
          obtain rfl : k = n := by omega
          omega
      · refine ⟨p, by omega, h2, fun k hk1 hk2 => ?_⟩
        by_cases hkn : k = n
        · subst hkn
          have := hA p k (by omega) (by omega)
          have := h3 p (Nat.le_refl _) (by omega)
          omega
        · exact h3 k hk1 (by omega)
  obtain ⟨p, h1, h2, h3⟩ := H l.length (Nat.le_refl _)
  exact ⟨p, h1, h2, h3⟩
theorem pos_found {l : List (Int × Int)} {hs : Int} (hA : Asc l) : Found l hs (pos l hs) := Classical.epsilon_spec (found_ex l hs hA)
theorem nil_c (hs : Int) : cLo [] hs = 0 ∧ cHi [] hs = 0 := by
  unfold cLo cHi arcLo arcHi
  exact ⟨if_pos rfl, if_pos rfl⟩

/-- Bounds of the correction: it lies between the least and the greatest of the entries' values. -/
theorem num_lo {l : List (Int × Int)} {hs m : Int} {p : Nat} (h1 : m ≤ valAt l (p - 1)) (h2 : m ≤ valAt l p) (_h3 : atAt l (p - 1) < atAt l p) (h4 : atAt l (p - 1) ≤ hs) (h5 : hs ≤ atAt l p) :
    m * (atAt l p - atAt l (p - 1)) ≤ arcNum l hs p := by
  unfold arcNum
  have a1 : 0 ≤ (valAt l (p - 1) - m) * (atAt l p - hs) := Int.mul_nonneg (by omega) (by omega)
  have a2 : 0 ≤ (valAt l p - m) * (hs - atAt l (p - 1)) := Int.mul_nonneg (by omega) (by omega)
  grind
theorem num_hi {l : List (Int × Int)} {hs m : Int} {p : Nat} (h1 : valAt l (p - 1) ≤ m) (h2 : valAt l p ≤ m) (_h3 : atAt l (p - 1) < atAt l p) (h4 : atAt l (p - 1) ≤ hs) (h5 : hs ≤ atAt l p) :
    arcNum l hs p ≤ m * (atAt l p - atAt l (p - 1)) := by
  unfold arcNum
  have a1 : 0 ≤ (m - valAt l (p - 1)) * (atAt l p - hs) := Int.mul_nonneg (by omega) (by omega)
  have a2 : 0 ≤ (m - valAt l p) * (hs - atAt l (p - 1)) := Int.mul_nonneg (by omega) (by omega)
  grind
theorem up_down {a b : Int} (hb : 0 < b) : a / b ≤ -(-a / b) ∧ -(-a / b) ≤ a / b + 1 ∧ (-(-a / b)) * b < a + b ∧ a ≤ (-(-a / b)) * b := by
  have h1 := Int.emod_add_mul_ediv a b
  have h2 := Int.emod_add_mul_ediv (-a) b
  have h3 := Int.emod_nonneg a (show b ≠ 0 by omega)
  have h4 := Int.emod_lt_of_pos a hb
  have h5 := Int.emod_nonneg (-a) (show b ≠ 0 by omega)
  have h6 := Int.emod_lt_of_pos (-a) hb
  have h7 : (-(-a / b)) * b = -(b * (-a / b)) := by grind
  refine ⟨?_, ?_, by omega, by omega⟩
  · rcases Int.lt_trichotomy (a / b) (-(-a / b)) with h | h | h
    · omega
    · omega
    · have : b * 1 ≤ b * (a / b + (-a / b)) := Int.mul_le_mul_of_nonneg_left (by omega) (by omega)
      rw [Int.mul_add] at this
      omega
  · rcases Int.lt_trichotomy (-(-a / b)) (a / b + 1) with h | h | h
    · omega
    · omega
    · have : b * (a / b + (-a / b)) ≤ b * (-2) := Int.mul_le_mul_of_nonneg_left (by omega) (by omega)
      rw [Int.mul_add] at this
      omega
/-- The four ways of the arc's error, at a valid instrument. -/
theorem c_cases {idx : Int} {l : List (Int × Int)} (hv : Valid18 idx l) (hl : 0 < l.length) (hs : Int) :
    (∃ k, k < l.length ∧ cLo l hs = valAt l k ∧ cHi l hs = valAt l k) ∨
    ∃ p, 0 < p ∧ p < l.length ∧ atAt l (p - 1) < hs ∧ hs < atAt l p ∧ atAt l (p - 1) < atAt l p ∧ cLo l hs = arcNum l hs p / (atAt l p - atAt l (p - 1)) ∧ cHi l hs = -(-arcNum l hs p / (atAt l p - atAt l (p - 1))) := by
  have hA := asc_of hv
  have hF := pos_found (hs := hs) hA
  obtain ⟨h1, h2, h3⟩ := hF
  unfold cLo cHi
  generalize pos l hs = p at *
  by_cases ht : there l hs p = true
  · have hp : p < l.length := by unfold there at ht; simp at ht; exact ht.1
    exact .inl ⟨p, hp, arc_at hl (.inl ht)⟩
  · have ht : there l hs p = false := by simpa using ht
    by_cases hp0 : p = 0
    · exact .inl ⟨p, by omega, arc_at hl (.inr hp0)⟩
    · by_cases hpl : p = l.length
      · subst hpl
        exact .inl ⟨l.length - 1, by omega, arc_end hl ht⟩
      · refine .inr ⟨p, by omega, by omega, h2 (p - 1) (by omega), ?_, hA (p - 1) p (by omega) (by omega), arc_mid (by omega) (by omega) ht⟩
        have := h3 p (Nat.le_refl _) (by omega)
        unfold there at ht
        simp at ht
        have := ht (by omega)
        omega
theorem c_bd {idx : Int} {l : List (Int × Int)} (hv : Valid18 idx l) {hs m M : Int} (hl : 0 < l.length) (hm : ∀ k, k < l.length → m ≤ valAt l k ∧ valAt l k ≤ M) :
    m ≤ cLo l hs ∧ cHi l hs ≤ M ∧ cLo l hs ≤ cHi l hs ∧ cHi l hs ≤ cLo l hs + 1 := by
  rcases c_cases hv hl hs with ⟨k, hk, h1, h2⟩ | ⟨p, hp0, hpl, ha, hb, hd, h1, h2⟩
  · have := hm k hk
    omega
  · have m1 := hm p hpl
    have m2 := hm (p - 1) (by omega)
    have n1 := num_lo (l := l) (hs := hs) (m := m) (p := p) m2.1 m1.1 hd (by omega) (by omega)
    have n2 := num_hi (l := l) (hs := hs) (m := M) (p := p) m2.2 m1.2 hd (by omega) (by omega)
    have hD : 0 < atAt l p - atAt l (p - 1) := by omega
    obtain ⟨u1, u2, u3, u4⟩ := up_down (a := arcNum l hs p) hD
    rw [h1, h2]
    refine ⟨(Int.le_ediv_iff_mul_le hD).2 n1, ?_, u1, u2⟩
    have : -M ≤ -arcNum l hs p / (atAt l p - atAt l (p - 1)) := (Int.le_ediv_iff_mul_le hD).2 (by rw [Int.neg_mul]; omega)
    omega
theorem c_bd' {idx : Int} {l : List (Int × Int)} (hv : Valid18 idx l) (hs : Int) : -10000 ≤ cLo l hs ∧ cHi l hs ≤ 10000 ∧ cLo l hs ≤ cHi l hs ∧ cHi l hs ≤ cLo l hs + 1 := by
  rcases Nat.eq_zero_or_pos l.length with h | h
  · have hl : l = [] := List.eq_nil_of_length_eq_zero h
    subst hl
    have := nil_c hs
    omega
  · exact c_bd hv h fun k hk => ⟨(hv.2.2.2 k hk).2.2.1, (hv.2.2.2 k hk).2.2.2.1⟩
end Go.Proofs.YtkcelhhhbbpbpaaDoor

/- Contracts of the small functions of the instrument and of its reference: quotients, ranges, the binary search. -/
namespace Go.Proofs.YtkcelhhhbbpbpaaDoor
open Go.RowKit

theorem within_yes (n k : Int) (w : World) (h1 : -k ≤ n) (h2 : n ≤ k) (hk : 0 ≤ k ∧ k ≤ 1000000000) :
    Calls Tryd.prog 26 #[.int .i64 n, .int .i64 k] w fun e w' => e = .returned (.bool true) ∧ w = w' := by
  obtain ⟨_, _⟩ := hk
  go_enter Tryd.func26, Tryd.ntmps26
  go_wp2
  go_ret
  exact ⟨rfl, rfl⟩
theorem within_no (n k : Int) (w : World) (h : n < -k ∨ k < n) (hk : 0 ≤ k ∧ k ≤ 1000000000) :
    Calls Tryd.prog 26 #[.int .i64 n, .int .i64 k] w fun e w' => e = .returned (.bool false) ∧ w = w' := by
  obtain ⟨_, _⟩ := hk
  by_cases h0 : n < -k
  · clear h
    go_enter Tryd.func26, Tryd.ntmps26
    go_wp2
    go_ret
    exact ⟨rfl, rfl⟩
  · have h' : -k ≤ n := by omega
    have h'' : k < n := by omega
    clear h h0
    go_enter Tryd.func26, Tryd.ntmps26
    go_wp2
    go_ret
    exact ⟨ret_bool (by simpa using h''), rfl⟩
theorem reading_yes (n : Int) (w : World) (h1 : -60000 ≤ n) (h2 : n ≤ 7800000) :
    Calls Tryd.prog 27 #[.int .i64 n] w fun e w' => e = .returned (.bool true) ∧ w = w' := by
  go_enter Tryd.func27, Tryd.ntmps27
  go_wp2
  go_ret
  exact ⟨rfl, rfl⟩
theorem reading_no (n : Int) (w : World) (h : n < -60000 ∨ 7800000 < n) :
    Calls Tryd.prog 27 #[.int .i64 n] w fun e w' => e = .returned (.bool false) ∧ w = w' := by
  by_cases h0 : n < -60000
  · clear h
    go_enter Tryd.func27, Tryd.ntmps27
    go_wp2
    go_ret
    exact ⟨rfl, rfl⟩
  · have h' : -60000 ≤ n := by omega
    have h'' : 7800000 < n := by omega
    clear h h0
    go_enter Tryd.func27, Tryd.ntmps27
    go_wp2
    go_ret
    exact ⟨ret_bool (by simpa using h''), rfl⟩
theorem floor_any (a b : Int) (w : World) (hb : 1 ≤ b ∧ b ≤ 1000000000) (ha : -1000000000000000000 ≤ a ∧ a ≤ 1000000000000000000) :
    Calls Tryd.prog 29 #[.int .i64 a, .int .i64 b] w fun e w' => e = .returned (.int .i64 (a / b)) ∧ w = w' := by
  obtain ⟨hb1, hb2⟩ := hb
  obtain ⟨ha1, ha2⟩ := ha
  obtain ⟨hq1, hq2⟩ := tdiv_bd hb1 ha1 ha2 (by omega) (by omega)
  go_enter Tryd.func29, Tryd.ntmps29
  go_wp2
  · have h : a.tmod b < 0 := by assumption
    go_ret
    exact ⟨ret_int (tmod_lt_zero_floor (by omega) h), rfl⟩
  · have h : 0 ≤ a.tmod b := by assumption
    go_ret
    exact ⟨ret_int (tmod_nonneg_floor (by omega) h), rfl⟩
theorem arcF (x y n : Int) (w : World) (hx : 0 ≤ x ∧ x ≤ 100000000) (hn : -100000000 ≤ n ∧ n ≤ 100000000) :
    Calls Tryd.prog 40 #[.agg #[.int .i64 x, .int .i64 y], .int .i64 n] w fun e w' => e = .returned (.int .i64 (x - n)) ∧ Below w.heap.size w w' := by
  obtain ⟨_, _⟩ := hx
  obtain ⟨_, _⟩ := hn
  go_enter Tryd.func40, Tryd.ntmps40
  go_wp2
  go_ret
  exact ⟨rfl, (Below.refl _ _).alloc (Nat.le_refl _) _⟩
set_option maxHeartbeats 1000000 in
theorem bsf_arcF (b off c : Nat) (l : List (Int × Int)) (hs : Int) (w : World) (hn40 : l.length ≤ 100) (hs1 : -100000000 ≤ hs ∧ hs ≤ 100000000)
    (hr : Hid (∀ k, k < l.length → 0 ≤ atAt l k ∧ atAt l k ≤ 100000000)) (hA : Asc l) (hE : Ents w b off l) :
    Calls Tryd.prog 39 #[.slice (some ⟨b, off, none⟩) l.length c, .int .i64 hs, .func (.func 40) #[] #[]] w fun e w' =>
      ∃ p : Nat, Found l hs p ∧ e = .returned (.tuple #[.int .i64 p, .bool (there l hs p)]) ∧ Below w.heap.size w w' := by
  obtain ⟨hs1, hs2⟩ := hs1
  go_enter Tryd.func39, Tryd.ntmps39
  go_wp2
  go_loopw [9, 10] (fun i j wr => ∃ p q : Nat, p ≤ q ∧ q ≤ l.length ∧ i = .int .i64 p ∧ j = .int .i64 q ∧ Below w.heap.size w wr ∧ Hid (∀ k, k < p → atAt l k < hs) ∧ Hid (∀ k, q ≤ k → k < l.length → hs ≤ atAt l k)) (fun i j _ => (intOf j - intOf i).toNat)
  case atStart => exact ⟨0, l.length, by omega, by omega, rfl, rfl, Below.refl _ _, fun k hk => by omega, fun k h1 h2 => by omega⟩
  case round =>
    obtain ⟨p, q, hpq, hqn, rfl, rfl, hb, H1, H2⟩ := hrel
    by_cases hlt : p < q
    · obtain ⟨hc1, hc2⟩ := (hE.below hb hE.1).2 ((p + q) / 2) (by omega)
      have hm : (p + q) / 2 < l.length := by omega
      have ⟨h1, h2⟩ := hr.out ((p + q) / 2) hm
      by_cases hcmp : atAt l ((p + q) / 2) < hs
      · go_wp2_with (go_at_call 40; refine (arcF _ _ _ _ ⟨h1, h2⟩ ⟨hs1, hs2⟩).mono ?_; rintro e w1 ⟨rfl, hb1⟩)
        go_roundw
        case rel =>
          refine ⟨(p + q) / 2 + 1, q, by omega, hqn, by go_num, rfl, hb.trans (hb1.mono hb.size), fun k hk => ?_, H2⟩
          rcases Nat.lt_or_ge k ((p + q) / 2) with h | h
          · have := hA k _ h hm; omega
          · obtain rfl : k = (p + q) / 2 := by omega
            exact hcmp
        case measure => simp [intOf]; omega
      · go_wp2_with (go_at_call 40; refine (arcF _ _ _ _ ⟨h1, h2⟩ ⟨hs1, hs2⟩).mono ?_; rintro e w1 ⟨rfl, hb1⟩)
        go_roundw
        case rel =>
          refine ⟨p, (p + q) / 2, by omega, by omega, rfl, by go_num, hb.trans (hb1.mono hb.size), H1, fun k hk hkl => ?_⟩
          rcases Nat.lt_or_ge ((p + q) / 2) k with h | h
          · have := hA _ k h hkl; omega
          · obtain rfl : k = (p + q) / 2 := by omega
            omega
        case measure => simp [intOf]; omega
    · obtain rfl : p = q := by omega
      have HF : Hid (Found l hs p) := ⟨hqn, H1.out, H2.out⟩
      clear H1 H2
      by_cases hpn : p < l.length
      · obtain ⟨hc1, hc2⟩ := (hE.below hb hE.1).2 p hpn
        have ⟨h1, h2⟩ := hr.out p hpn
        go_wp2_with (go_at_call 40; refine (arcF _ _ _ _ ⟨h1, h2⟩ ⟨hs1, hs2⟩).mono ?_; rintro e w1 ⟨rfl, hb1⟩)
        go_ret2
        exact ⟨p, HF.out, ret_ib rfl (there_lt hpn), hb.trans (hb1.mono hb.size)⟩
      · go_wp2
        go_ret2
        exact ⟨p, HF.out, ret_ib rfl (there_ge hpn), hb⟩
end Go.Proofs.YtkcelhhhbbpbpaaDoor

/- Contract of instrument.Valid: it says just which instruments are valid, for any numbers in the entries. -/
namespace Go.Proofs.YtkcelhhhbbpbpaaDoor
open Go.RowKit

theorem box2 {w wr : World} {u v : Value} {t : TypeId} (h : Below (w.heap.size + 1) (w.alloc (.cells #[u, v] t)) wr) :
    wr.cell? ⟨w.heap.size, 0, none⟩ = some u ∧ wr.cell? ⟨w.heap.size, 1, none⟩ = some v := by
  have h0 := h.cell (p := ⟨w.heap.size, 0, none⟩) (by simp)
  have h1 := h.cell (p := ⟨w.heap.size, 1, none⟩) (by simp)
  exact ⟨h0.trans (by go_simp), h1.trans (by go_simp)⟩
theorem vld_no {idx : Int} {l : List (Int × Int)} {k : Nat} (hk : k < l.length) (h : ¬ OkEnt l k) : false = vldB idx l := by
  unfold vldB
  symm
  exact decide_eq_false (fun hv => h (hv.2.2.2 k hk))
set_option maxHeartbeats 2000000 in
theorem inValid_any (idx : Int) (A : Option Addr) (c : Nat) (l : List (Int × Int)) (w : World) (hT : Tab w A l) :
    Calls Tryd.prog 13 #[.agg #[.int .i64 idx, .slice A l.length c]] w fun e w' => e = .returned (.bool (vldB idx l)) ∧ Below w.heap.size w w' := by
  by_cases hi : idx < -60000 ∨ 60000 < idx
  · have hv : Hid (vldB idx l = false) := decide_eq_false (fun hv => by have h1 := hv.1; have h2 := hv.2.1; omega)
    go_enter Tryd.func13, Tryd.ntmps13
    go_wp2_with (go_at_call 26; refine (within_no _ _ _ hi ⟨by omega, by omega⟩).mono ?_; rintro e w1 ⟨rfl, rfl⟩)
    go_ret
    exact ⟨ret_bool hv.out.symm, (Below.refl _ _).alloc (Nat.le_refl _) _⟩
  · by_cases hl : 40 < l.length
    · have hv : Hid (vldB idx l = false) := decide_eq_false (fun hv => by have h1 := hv.2.2.1; omega)
      have hl' : (40 : Int) < l.length := by omega
      go_enter Tryd.func13, Tryd.ntmps13
      go_wp2_with (go_at_call 26; refine (within_yes _ _ _ (by omega) (by omega) ⟨by omega, by omega⟩).mono ?_; rintro e w1 ⟨rfl, rfl⟩)
      go_ret
      exact ⟨ret_bool hv.out.symm, (Below.refl _ _).alloc (Nat.le_refl _) _⟩
    · have hi1 : -60000 ≤ idx := by omega
      have hi2 : idx ≤ 60000 := by omega
      have hl : l.length ≤ 40 := by omega
      clear hi
      go_enter Tryd.func13, Tryd.ntmps13
      go_wp2_with (go_at_call 26; refine (within_yes _ _ _ (by omega) (by omega) ⟨by omega, by omega⟩).mono ?_; rintro e w1 ⟨rfl, rfl⟩)
      go_loopw [19] (fun i wr => ∃ k : Nat, k ≤ l.length ∧ i = .int .i64 k ∧ Below (w.heap.size + 1) (w.alloc (.cells #[.int .i64 idx, .slice A l.length c] 24)) wr ∧ Hid (∀ j, j < k → OkEnt l j)) (fun i _ => l.length - (intOf i).toNat)
      case atStart => exact ⟨0, Nat.zero_le _, rfl, Below.refl _ _, fun j hj => by omega⟩
      case round =>
        obtain ⟨k, hk, rfl, hb, hok⟩ := hrel
        obtain ⟨hb0, hb1⟩ := box2 hb
        have hsz : w.heap.size < wr.heap.size := by have := hb.size; simp at this; omega
        have hend : Below w.heap.size w wr := ((Below.refl _ _).alloc (Nat.le_refl _) _).trans (hb.mono (by omega))
        by_cases hlt : k < l.length
        · obtain ⟨b, off, rfl, hE⟩ := hT (by omega)
          have hE' := ((hE.below ((Below.refl w.heap.size w).alloc (Nat.le_refl _) _) hE.1).below hb (by have := hE.1; omega))
          obtain ⟨hc0, hc1⟩ := hE'.2 k hlt
          have hno : Hid (¬ OkEnt l k → false = vldB idx l) := fun h => vld_no hlt h
          by_cases h1 : atAt l k < 0
          · have hf : Hid (false = vldB idx l) := hno.out (fun h => by have := h.1; omega)
            clear hE'
            go_wp2
            go_ret
            exact ⟨ret_bool hf.out, hend.alloc (by omega) _⟩
          by_cases h2 : 7800000 < atAt l k
          · have hf : Hid (false = vldB idx l) := hno.out (fun h => by have := h.2.1; omega)
            clear hE'
            go_wp2
            go_ret
            exact ⟨ret_bool hf.out, hend.alloc (by omega) _⟩
          by_cases h3 : valAt l k < -10000 ∨ 10000 < valAt l k
          · have hf : Hid (false = vldB idx l) := hno.out (fun h => by have := h.2.2.1; have := h.2.2.2.1; omega)
            clear hE'
            go_wp2_with (go_at_call 26; refine (within_no _ _ _ h3 ⟨by omega, by omega⟩).mono ?_; rintro e w1 ⟨rfl, rfl⟩)
            go_ret
            exact ⟨ret_bool hf.out, hend.alloc (by omega) _⟩
          have ha1 : 0 ≤ atAt l k := by omega
          have ha2 : atAt l k ≤ 7800000 := by omega
          have hv1 : -10000 ≤ valAt l k := by omega
          have hv2 : valAt l k ≤ 10000 := by omega
          clear h1 h2 h3
          by_cases hk0 : k = 0
          · have hok1 : Hid (∀ j, j < k + 1 → OkEnt l j) := by
              intro j hj
              obtain rfl : j = k := by omega
              exact ⟨ha1, ha2, hv1, hv2, fun h => by omega⟩
            have hk0' : ((k : Int) == 0) = true := by simp; exact hk0
            clear hE hE' hk0
            go_wp2_with (go_at_call 26; refine (within_yes _ _ _ (by omega) (by omega) ⟨by omega, by omega⟩).mono ?_; rintro e w1 ⟨rfl, rfl⟩)
            go_roundw
            case rel => exact ⟨k + 1, by omega, by go_num, (hb.alloc (by omega) _), hok1⟩
            case measure => simp [intOf]; omega
          · obtain ⟨hd0, hd1⟩ := hE'.2 (k - 1) (by omega)
            obtain ⟨hq1, hq2, hu1, hu2, _⟩ := hok.out (k - 1) (by omega)
            have hk0' : ((k : Int) == 0) = false := by simp; omega
            clear hE'
            have E1 : Hid (IntKind.i64.wrap ((k : Int) - 1) = (k : Int) - 1) := IntWalk.i64_in _ (by omega)
            have E2 : Hid (((k : Int) - 1).toNat = k - 1) := by show _ = _; omega
            have E3 : Hid (IntKind.i64.wrap (atAt l k - atAt l (k - 1)) = atAt l k - atAt l (k - 1)) := IntWalk.i64_in _ (by omega)
            have E4 : Hid (IntKind.i64.wrap (valAt l k - valAt l (k - 1)) = valAt l k - valAt l (k - 1)) := IntWalk.i64_in _ (by omega)
            have E5 : Hid (IntKind.i64.wrap (10 * (valAt l k - valAt l (k - 1))) = 10 * (valAt l k - valAt l (k - 1))) := IntWalk.i64_in _ (by omega)
            have hbs : b < wr.heap.size := Nat.lt_of_lt_of_le hE.1 (by have := hb.size; simp at this; omega)
            clear hE
            have G3 : (1 : Int) ≤ k := by omega
            have G4 : (k : Int) - 1 < l.length := by omega
            have G1 : (0 : Int) ≤ (k : Int) - 1 := by omega
            by_cases h4 : atAt l k ≤ atAt l (k - 1)
            · have hf : Hid (false = vldB idx l) := hno.out (fun h => by have := (h.2.2.2.2 (by omega)).1; omega)
              have G2 : decide (atAt l k - atAt l (k - 1) ≤ 0) = true := by simp; omega
              go_wp2_with (go_at_call 26; refine (within_yes _ _ _ (by omega) (by omega) ⟨by omega, by omega⟩).mono ?_; rintro e w1 ⟨rfl, rfl⟩)
              have e1 := E1.out
              have e2 := E2.out
              have e3 := E3.out
              go_quiet (fail)
              clear e3
              go_wp2_with fail
              have e4 := E4.out
              have e5 := E5.out
              go_quiet (fail)
              clear e1 e2 e4 e5
              go_wp2
              go_ret
              exact ⟨ret_bool hf.out, by repeat (first | exact hend | refine below_drewN ?_ _ | refine Below.alloc ?_ (by omega) _)⟩
            have G2 : decide (atAt l k - atAt l (k - 1) ≤ 0) = false := by simp; omega
            have G6 : 0 ≤ atAt l k - atAt l (k - 1) ∧ atAt l k - atAt l (k - 1) ≤ 1000000000 := by omega
            by_cases h5 : 10 * (valAt l k - valAt l (k - 1)) < -(atAt l k - atAt l (k - 1)) ∨ atAt l k - atAt l (k - 1) < 10 * (valAt l k - valAt l (k - 1))
            · have hf : Hid (false = vldB idx l) := hno.out (fun h => by have := (h.2.2.2.2 (by omega)).2; omega)
              go_wp2_with (go_at_call 26; refine (within_yes _ _ _ (by omega) (by omega) ⟨by omega, by omega⟩).mono ?_; rintro e w1 ⟨rfl, rfl⟩)
              have e1 := E1.out
              have e2 := E2.out
              have e3 := E3.out
              go_quiet (fail)
              clear e3
              go_wp2_with fail
              have e4 := E4.out
              have e5 := E5.out
              go_quiet ((go_at_call 26; first | exact quiet_left (within_no _ _ _ h5 G6) | exact quiet_add_left (within_no _ _ _ h5 G6)))
              clear e1 e2 e4 e5
              go_wp2
              go_ret
              exact ⟨ret_bool hf.out, by repeat (first | exact hend | refine below_drewN ?_ _ | refine Below.alloc ?_ (by omega) _)⟩
            · have hok1 : Hid (∀ j, j < k + 1 → OkEnt l j) := by
                intro j hj
                by_cases hjk : j = k
                · subst hjk
                  exact ⟨ha1, ha2, hv1, hv2, fun h => ⟨by omega, by omega, by omega⟩⟩
                · exact hok.out j (by omega)
              have h6 : -(atAt l k - atAt l (k - 1)) ≤ 10 * (valAt l k - valAt l (k - 1)) := by omega
              have h7 : 10 * (valAt l k - valAt l (k - 1)) ≤ atAt l k - atAt l (k - 1) := by omega
              clear h5 h4
              go_wp2_with (go_at_call 26; refine (within_yes _ _ _ (by omega) (by omega) ⟨by omega, by omega⟩).mono ?_; rintro e w1 ⟨rfl, rfl⟩)
              have e1 := E1.out
              have e2 := E2.out
              have e3 := E3.out
              go_quiet (fail)
              clear e3
              go_wp2_with fail
              have e4 := E4.out
              have e5 := E5.out
              go_quiet ((go_at_call 26; first | exact quiet_left (within_yes _ _ _ h6 h7 G6) | exact quiet_add_left (within_yes _ _ _ h6 h7 G6)))
              clear e1 e2 e4 e5
              go_wp2
              go_roundw
              case rel => exact ⟨k + 1, by omega, by go_num, below_drewN (hb.alloc (by omega) _) _, hok1⟩
              case measure => simp [intOf]; omega
        · have hv : Hid (true = vldB idx l) := (decide_eq_true (⟨hi1, hi2, hl, fun j hj => hok.out j (by omega)⟩ : Valid18 idx l)).symm
          go_wp2
          go_ret
          exact ⟨ret_bool hv.out, hend⟩
end Go.Proofs.YtkcelhhhbbpbpaaDoor

/- Contracts of the error of the arc, of instrument.Correction and of instrument.Apply. -/
namespace Go.Proofs.YtkcelhhhbbpbpaaDoor
open Go.RowKit

theorem bsf_arcF_nil (A : Option Addr) (c : Nat) (hs : Int) (w : World) :
    Calls Tryd.prog 39 #[.slice A 0 c, .int .i64 hs, .func (.func 40) #[] #[]] w fun e w' => e = .returned (.tuple #[.int .i64 0, .bool false]) ∧ w = w' := by
  go_enter Tryd.func39, Tryd.ntmps39
  go_wp2
  go_loopw [9, 10] (fun i j wr => i = .int .i64 0 ∧ j = .int .i64 0 ∧ wr = w) (fun i j _ => 0)
  case atStart => exact ⟨rfl, rfl, rfl⟩
  case round =>
    obtain ⟨rfl, rfl, rfl⟩ := hrel
    go_wp2
    go_ret2
    exact ⟨rfl, rfl⟩
set_option maxHeartbeats 1000000 in
theorem inArc_nil (A : Option Addr) (c : Nat) (hs : Int) (w : World) :
    Calls Tryd.prog 28 #[.slice A 0 c, .int .i64 hs] w fun e w' => e = .returned (.agg #[.int .i64 0, .int .i64 0]) ∧ Below w.heap.size w w' := by
  go_enter Tryd.func28, Tryd.ntmps28
  go_wp2_with (go_at_call 39; refine (bsf_arcF_nil _ _ _ _).mono ?_; rintro e w1 ⟨rfl, rfl⟩)
  exact bodyPost_ret (v := .agg #[.int .i64 0, .int .i64 0]) (by simp [results, Tryd.results28, go_sem]) rfl ⟨rfl, (Below.refl _ _).alloc (Nat.le_refl _) _⟩
theorem box2z {w wr : World} {u v : Value} {t : TypeId} (h : Below (w.heap.size + 1) (w.alloc (.cells #[u, v] t)) wr) :
    wr.frozen? ⟨w.heap.size, 0, none⟩ = false ∧ wr.frozen? ⟨w.heap.size, 1, none⟩ = false := by
  have h0 := h.frozen (p := ⟨w.heap.size, 0, none⟩) (by simp)
  have h1 := h.frozen (p := ⟨w.heap.size, 1, none⟩) (by simp)
  exact ⟨h0.trans (by go_simp), h1.trans (by go_simp)⟩
set_option maxHeartbeats 1000000 in
theorem inArc_some (b off c : Nat) (l : List (Int × Int)) (hs : Int) (w : World) (idx : Int) (hv : Valid18 idx l) (hs1 : -60000 ≤ hs ∧ hs ≤ 7800000) (hE : Ents w b off l) (hl : 0 < l.length) :
    Calls Tryd.prog 28 #[.slice (some ⟨b, off, none⟩) l.length c, .int .i64 hs] w fun e w' =>
      ∃ p, Found l hs p ∧ e = .returned (.agg #[.int .i64 (arcLo l hs p), .int .i64 (arcHi l hs p)]) ∧ Below w.heap.size w w' := by
  have hA := asc_of hv
  obtain ⟨hi1, hi2, hl40, hok⟩ := hv
  have hr : Hid (∀ k, k < l.length → 0 ≤ atAt l k ∧ atAt l k ≤ 100000000) := fun k hk => by have := (hok k hk).1; have := (hok k hk).2.1; omega
  have hok := Lib.hid hok
  obtain ⟨hs1, hs2⟩ := hs1
  have hne : ((l.length : Int) == 0) = false := beq_eq_false_iff_ne.2 (by omega)
  go_enter Tryd.func28, Tryd.ntmps28
  go_wp2_with fail
  refine (bsf_arcF _ _ _ _ _ _ (by omega) ⟨by omega, by omega⟩ hr hA (hE.below ((Below.refl w.heap.size w).alloc (Nat.le_refl _) _) hE.1)).mono ?_
  rintro e w1 ⟨p, hF, rfl, hb0⟩
  have hb : Below (w.heap.size + 1) _ w1 := hb0.mono (by simp)
  clear hb0
  have hE1 := (hE.below ((Below.refl w.heap.size w).alloc (Nat.le_refl _) _) hE.1).below hb (by have := hE.1; omega)
  have hsz : w.heap.size < w1.heap.size := by have := hb.size; simp at this; omega
  obtain ⟨hq0, hq1⟩ := box2 (w := w) hb
  obtain ⟨hz0, hz1⟩ := box2z (w := w) hb
  have hle := hF.1
  have hend : Below w.heap.size w w1 := ((Below.refl _ _).alloc (Nat.le_refl _) _).trans (hb.mono (by omega))
  by_cases h0 : there l hs p = true ∨ p = 0
  · obtain ⟨v1, v2⟩ := arc_at hl h0
    have V1 := Lib.hid v1
    have V2 := Lib.hid v2
    clear v1 v2
    have hp : p < l.length := by
      rcases h0 with ht | ht
      · unfold there at ht; simp at ht; exact ht.1
      · omega
    obtain ⟨hc0, hc1⟩ := hE1.2 p hp
    by_cases ht : there l hs p = true
    · clear h0
      go_wp2_with fail
      go_region
      go_wp2
      refine bodyPost_ret (v := .agg #[.int .i64 (valAt l p), .int .i64 (valAt l p)]) (by simp [results, Tryd.results28, go_sem, hq0, hq1]) rfl ⟨p, hF, by rw [V1.out, V2.out], ?_⟩
      exact ((hend.setCell (Nat.le_refl _) _).setCell (Nat.le_refl _) _).drew
    · have ht : there l hs p = false := by simpa using ht
      have hp0 : ((p : Int) == 0) = true := beq_iff_eq.2 (by rcases h0 with h | h <;> simp_all)
      clear h0
      go_wp2_with fail
      go_region
      go_wp2
      refine bodyPost_ret (v := .agg #[.int .i64 (valAt l p), .int .i64 (valAt l p)]) (by simp [results, Tryd.results28, go_sem, hq0, hq1]) rfl ⟨p, hF, by rw [V1.out, V2.out], ?_⟩
      exact ((hend.setCell (Nat.le_refl _) _).setCell (Nat.le_refl _) _).drew
  · have ht : there l hs p = false := Bool.eq_false_iff.2 (fun h => h0 (Or.inl h))
    have hp0 : 0 < p := Nat.pos_of_ne_zero (fun h => h0 (Or.inr h))
    have hp0' : ((p : Int) == 0) = false := beq_eq_false_iff_ne.2 (by omega)
    clear h0
    have G1 : (0 : Int) ≤ (p : Int) - 1 := by omega
    have G3 : (1 : Int) ≤ p := by omega
    have G4 : (p : Int) - 1 < l.length := by omega
    have E1 : Hid (IntKind.i64.wrap ((p : Int) - 1) = (p : Int) - 1) := IntWalk.i64_in _ (by omega)
    have E2 : Hid (((p : Int) - 1).toNat = p - 1) := by show _ = _; omega
    obtain ⟨hd0, hd1⟩ := hE1.2 (p - 1) (by omega)
    by_cases hpl : p = l.length
    · have hpl' : ((p : Int) == l.length) = true := beq_iff_eq.2 (by omega)
      have V : Hid (arcLo l hs p = valAt l (p - 1) ∧ arcHi l hs p = valAt l (p - 1)) := by subst hpl; exact arc_end hl ht
      clear hpl
      go_wp2_with fail
      have e1 := E1.out
      have e2 := E2.out
      go_region
      clear e1 e2
      go_wp2
      refine bodyPost_ret (v := .agg #[.int .i64 (valAt l (p - 1)), .int .i64 (valAt l (p - 1))]) (by simp [results, Tryd.results28, go_sem, hq0, hq1]) rfl ⟨p, hF, by rw [V.out.1, V.out.2], ?_⟩
      exact ((hend.setCell (Nat.le_refl _) _).setCell (Nat.le_refl _) _).drew
    · have hpl' : ((p : Int) == l.length) = false := beq_eq_false_iff_ne.2 (by omega)
      have hp : p < l.length := by omega
      have G5 : (p : Int) < l.length := by omega
      obtain ⟨hc0, hc1⟩ := hE1.2 p hp
      have V := Lib.hid (arc_mid hp0 hp ht)
      obtain ⟨ha1, ha2, hv1, hv2, hd⟩ := hok.out p hp
      obtain ⟨hd, hd'⟩ := hd hp0
      obtain ⟨hb1, hb2, hw1, hw2, _⟩ := hok.out (p - 1) (by omega)
      have M1 := mul_bd (x := valAt l (p - 1)) (y := atAt l p - atAt l (p - 1)) (X := 10000) (Y := 7800000) (by omega) (by omega)
      have M2 := mul_bd (x := valAt l p - valAt l (p - 1)) (y := hs - atAt l (p - 1)) (X := 20000) (Y := 7900000) (by omega) (by omega)
      have M3 := ediv_bd (a := -(valAt l (p - 1) * (atAt l p - atAt l (p - 1)) + (valAt l p - valAt l (p - 1)) * (hs - atAt l (p - 1)))) (b := atAt l p - atAt l (p - 1)) (lo := -1000000000000) (hi := 1000000000000) (by omega) (by omega) (by omega) (by omega) (by omega)
      have hbs : b < w1.heap.size := hE1.1
      clear hd'
      go_wp2_with fail
      have e1 := E1.out
      have e2 := E2.out
      go_region
      all_goals
        clear e1 e2
        go_wp2_with fail
        refine (floor_any _ _ _ (by omega) (by omega)).mono ?_
        rintro e w2 ⟨rfl, rfl⟩
        go_wp2_with fail
        refine (floor_any _ _ _ (by omega) (by omega)).mono ?_
        rintro e w2 ⟨rfl, rfl⟩
        go_wp2_with fail
        refine bodyPost_ret (v := .agg #[.int .i64 (arcNum l hs p / (atAt l p - atAt l (p - 1))), .int .i64 (-(-arcNum l hs p / (atAt l p - atAt l (p - 1))))]) (by simp [results, Tryd.results28, go_sem, hq0, hq1, hsz, arcNum]) rfl ⟨p, hF, by rw [V.out.1, V.out.2], ?_⟩
        repeat (first | exact hend | refine Below.setCell ?_ (by simp) _ | refine Below.drew ?_ | refine Below.alloc ?_ (by simp; omega) _)
end Go.Proofs.YtkcelhhhbbpbpaaDoor

/- Contracts of instrument.Correction, Apply and IndexFrom. -/
namespace Go.Proofs.YtkcelhhhbbpbpaaDoor
open Go.RowKit
set_option linter.unusedVariables false

theorem inArc_any (A : Option Addr) (c : Nat) (l : List (Int × Int)) (hs : Int) (w : World) (idx : Int) (hv : Valid18 idx l) (hs1 : -60000 ≤ hs ∧ hs ≤ 7800000) (hT : Tab w A l) :
    Calls Tryd.prog 28 #[.slice A l.length c, .int .i64 hs] w fun e w' =>
      e = .returned (.agg #[.int .i64 (cLo l hs), .int .i64 (cHi l hs)]) ∧ Below w.heap.size w w' := by
  rcases Nat.eq_zero_or_pos l.length with h | h
  · have hl : l = [] := List.eq_nil_of_length_eq_zero h
    subst hl
    have hc := nil_c hs
    refine (inArc_nil A c hs w).mono fun e w' ⟨he, hb⟩ => ⟨?_, hb⟩
    rw [he, hc.1, hc.2]
  · obtain ⟨b, off, rfl, hE⟩ := hT h
    refine (inArc_some b off c l hs w idx hv hs1 hE h).mono fun e w' ⟨p, hF, he, hb⟩ => ⟨?_, hb⟩
    rw [he, hF.pos]
    rfl
set_option maxHeartbeats 1000000 in
theorem corr_arg (idx : Int) (A : Option Addr) (c : Nat) (l : List (Int × Int)) (hs : Int) (w : World) (hT : Tab w A l) (hv : ¬ Valid18 idx l) :
    Calls Tryd.prog 14 #[.agg #[.int .i64 idx, .slice A l.length c], .int .i64 hs] w fun e w' =>
      e = .returned (.tuple #[.agg #[.int .i64 0, .int .i64 0], .int .i64 1]) ∧ Below w.heap.size w w' := by
  have hv : vldB idx l = false := decide_eq_false hv
  have hV := inValid_any idx A c l _ (hT.alloc (.cells #[.int .i64 idx, .slice A l.length c] 24) |>.alloc (.cells #[.int .i64 0, .int .i64 0] 40))
  rw [hv] at hV
  have HV := Lib.hid hV
  clear hV hv
  go_enter Tryd.func14, Tryd.ntmps14
  go_wp2_with fail
  refine HV.out.mono ?_
  rintro e w1 ⟨rfl, hb⟩
  clear HV
  obtain ⟨hc, hf⟩ := bcell hb
  have hz : w.heap.size + 1 < w1.heap.size := by have := hb.size; simp at this; omega
  have hend : Below w.heap.size w w1 := (((Below.refl _ _).alloc (Nat.le_refl _) _).alloc (by simp) _).trans (hb.mono (by simp; omega))
  go_wp2_with fail
  refine bodyPost_ret (v := .tuple #[.agg #[.int .i64 0, .int .i64 0], .int .i64 1]) (by simp [results, Tryd.results14, go_sem, hc]) rfl ⟨rfl, ?_⟩
  repeat (first | exact hend | refine Below.setCell ?_ (by simp) _)
set_option maxHeartbeats 1000000 in
theorem corr_range (idx : Int) (A : Option Addr) (c : Nat) (l : List (Int × Int)) (hs : Int) (w : World) (hT : Tab w A l) (hv : Valid18 idx l) (hh : hs < -60000 ∨ 7800000 < hs) :
    Calls Tryd.prog 14 #[.agg #[.int .i64 idx, .slice A l.length c], .int .i64 hs] w fun e w' =>
      e = .returned (.tuple #[.agg #[.int .i64 0, .int .i64 0], .int .i64 2]) ∧ Below w.heap.size w w' := by
  have hv : vldB idx l = true := decide_eq_true hv
  have hV := inValid_any idx A c l _ (hT.alloc (.cells #[.int .i64 idx, .slice A l.length c] 24) |>.alloc (.cells #[.int .i64 0, .int .i64 0] 40))
  rw [hv] at hV
  have HV := Lib.hid hV
  clear hV hv
  go_enter Tryd.func14, Tryd.ntmps14
  go_wp2_with fail
  refine HV.out.mono ?_
  rintro e w1 ⟨rfl, hb⟩
  clear HV
  obtain ⟨hc, hf⟩ := bcell hb
  have hz : w.heap.size + 1 < w1.heap.size := by have := hb.size; simp at this; omega
  have hend : Below w.heap.size w w1 := (((Below.refl _ _).alloc (Nat.le_refl _) _).alloc (by simp) _).trans (hb.mono (by simp; omega))
  go_wp2_with fail
  refine (reading_no _ _ hh).mono ?_
  rintro e w2 ⟨rfl, rfl⟩
  go_wp2_with fail
  refine bodyPost_ret (v := .tuple #[.agg #[.int .i64 0, .int .i64 0], .int .i64 2]) (by simp [results, Tryd.results14, go_sem, hc]) rfl ⟨rfl, ?_⟩
  repeat (first | exact hend | refine Below.setCell ?_ (by simp) _)
set_option maxHeartbeats 1000000 in
theorem corr_ok (idx : Int) (A : Option Addr) (c : Nat) (l : List (Int × Int)) (hs : Int) (w : World) (hT : Tab w A l) (hv : Valid18 idx l) (h1 : -60000 ≤ hs) (h2 : hs ≤ 7800000) :
    Calls Tryd.prog 14 #[.agg #[.int .i64 idx, .slice A l.length c], .int .i64 hs] w fun e w' =>
      e = .returned (.tuple #[.agg #[.int .i64 (cLo l hs + idx), .int .i64 (cHi l hs + idx)], .int .i64 0]) ∧ Below w.heap.size w w' := by
  have hvB : vldB idx l = true := decide_eq_true hv
  have hT2 := (hT.alloc (.cells #[.int .i64 idx, .slice A l.length c] 24) |>.alloc (.cells #[.int .i64 0, .int .i64 0] 40))
  have hV := inValid_any idx A c l _ hT2
  rw [hvB] at hV
  have HV := Lib.hid hV
  clear hV hvB
  have hbd := c_bd' hv hs
  have hi1 := hv.1
  have hi2 := hv.2.1
  go_enter Tryd.func14, Tryd.ntmps14
  go_wp2_with fail
  refine HV.out.mono ?_
  rintro e w1 ⟨rfl, hb⟩
  clear HV
  have HT1 := Lib.hid (hT2.below hb (Nat.le_refl _))
  clear hT2
  obtain ⟨hc, hf⟩ := bcell hb
  have hz : w.heap.size + 1 < w1.heap.size := by have := hb.size; simp at this; omega
  have hend : Below w.heap.size w w1 := (((Below.refl _ _).alloc (Nat.le_refl _) _).alloc (by simp) _).trans (hb.mono (by simp; omega))
  go_wp2_with fail
  refine (reading_yes _ _ h1 h2).mono ?_
  rintro e w2 ⟨rfl, rfl⟩
  go_wp2_with fail
  refine (inArc_any _ _ _ _ _ idx hv ⟨h1, h2⟩ HT1.out).mono ?_
  rintro e w2 ⟨rfl, hb2⟩
  obtain ⟨hc2, hf2⟩ := bcell hb2
  have hz2 : w.heap.size + 1 < w2.heap.size := by have := hb2.size; omega
  have hzb : w.heap.size < w1.heap.size := by omega
  have hzb2 : w.heap.size < w2.heap.size := by omega
  have hend2 : Below w.heap.size w w2 := hend.trans (hb2.mono (by omega))
  go_wp2_with fail
  refine bodyPost_ret (v := .tuple #[.agg #[.int .i64 (cLo l hs + idx), .int .i64 (cHi l hs + idx)], .int .i64 0]) (by simp [results, Tryd.results14, go_sem, hc, hc2, hz, hz2]) rfl ⟨rfl, ?_⟩
  repeat (first | exact hend2 | refine Below.setCell ?_ (by simp) _ | refine below_alloc ?_ _)
theorem index_range (on off : Int) (w : World) (h : on < 0 ∨ 60000 < on ∨ off < 0 ∨ 60000 < off) :
    Calls Tryd.prog 16 #[.int .i64 on, .int .i64 off] w fun e w' => e = .returned (.tuple #[.int .i64 0, .int .i64 0, .int .i64 2]) ∧ w = w' := by
  by_cases h1 : on < 0
  · clear h
    go_enter Tryd.func16, Tryd.ntmps16
    go_wp2
    go_ret3
    exact ⟨rfl, rfl⟩
  by_cases h2 : 60000 < on
  · clear h
    go_enter Tryd.func16, Tryd.ntmps16
    go_wp2
    go_ret3
    exact ⟨rfl, rfl⟩
  by_cases h3 : off < 0
  · clear h
    go_enter Tryd.func16, Tryd.ntmps16
    go_wp2
    go_ret3
    exact ⟨rfl, rfl⟩
  have h4 : 60000 < off := by omega
  clear h
  go_enter Tryd.func16, Tryd.ntmps16
  go_wp2
  go_ret3
  exact ⟨rfl, rfl⟩
theorem index_ok (on off : Int) (w : World) (h1 : 0 ≤ on) (h2 : on ≤ 60000) (h3 : 0 ≤ off) (h4 : off ≤ 60000) :
    Calls Tryd.prog 16 #[.int .i64 on, .int .i64 off] w fun e w' => e = .returned (.tuple #[.int .i64 ((off - on + 1) / 2), .int .i64 ((on + off + 2) / 4), .int .i64 0]) ∧ w = w' := by
  go_enter Tryd.func16, Tryd.ntmps16
  go_wp2_with (go_at_call 29; refine (floor_any _ _ _ (by omega) (by omega)).mono ?_; rintro e w1 ⟨rfl, rfl⟩)
  go_ret3
  exact ⟨rfl, rfl⟩
end Go.Proofs.YtkcelhhhbbpbpaaDoor

/- The examples of the chapter hold: awake returns true. -/
namespace Go.Proofs.YtkcelhhhbbpbpaaDoor
open Go.RowKit
set_option linter.unusedVariables false
set_option linter.unusedSimpArgs false

def exL : List (Int × Int) := [(0, 0), (3600000, 600)]
theorem exL_valid : Valid18 (-1500) exL := by decide
theorem exL_found {hs : Int} (h : 0 < hs) (h' : hs ≤ 3600000) : Found exL hs 1 := by
  refine ⟨by decide, fun k hk => ?_, fun k h1 h2 => ?_⟩
  · obtain rfl : k = 0 := by omega
    exact h
  · have h3 : exL.length = 2 := rfl
    obtain rfl : k = 1 := by omega
    exact h'
theorem exL_c1 : cLo exL 1800000 + -1500 = -1200 ∧ cHi exL 1800000 + -1500 = -1200 := by
  have h : Found exL 1800000 1 := exL_found (by omega) (by omega)
  unfold cLo cHi
  rw [← h.pos]
  decide
theorem exL_c2 : cLo exL 1 + -1500 = -1500 ∧ cHi exL 1 + -1500 = -1499 := by
  have h : Found exL 1 1 := exL_found (by omega) (by omega)
  unfold cLo cHi
  rw [← h.pos]
  decide
theorem exL_tab {w : World} {b : Nat} (hb : b < w.heap.size) (h0 : w.cell? ⟨b, 0, none⟩ = some (.int .i64 0)) (h1 : w.cell? ⟨b, 1, none⟩ = some (.int .i64 0)) (h2 : w.cell? ⟨b, 2, none⟩ = some (.int .i64 3600000)) (h3 : w.cell? ⟨b, 3, none⟩ = some (.int .i64 600)) : Tab w (some ⟨b, 0, none⟩) exL := by
  intro _
  refine ⟨b, 0, rfl, hb, fun k hk => ?_⟩
  have h4 : exL.length = 2 := rfl
  have hk2 : k = 0 ∨ k = 1 := by omega
  rcases hk2 with rfl | rfl
  · exact ⟨h0, h1⟩
  · exact ⟨h2, h3⟩
set_option maxHeartbeats 1000000 in
theorem example_any (w : World) : Calls Tryd.prog 15 #[] w fun e w' => ∃ A c, Tab w' A exL ∧ e = .returned (.agg #[.int .i64 (-1500), .slice A exL.length c]) ∧ Below w.heap.size w w' := by
  go_enter Tryd.func15, Tryd.ntmps15
  go_wp2
  refine bodyPost_ret (v := .agg #[.int .i64 (-1500), .slice (some ⟨w.heap.size + 1, 0, none⟩) 2 2]) (by simp [results, Tryd.results15, go_sem]) rfl ⟨_, 2, exL_tab (b := w.heap.size + 1) ?_ ?_ ?_ ?_ ?_, rfl, ?_⟩
  all_goals first | (simp [go_sem]; done) | skip
  repeat (first | exact Below.refl _ _ | refine Below.setCell ?_ (by simp) _ | refine below_alloc ?_ _)
theorem below_trans {a b c : World} (h : Below a.heap.size a b) (k : Below b.heap.size b c) : Below a.heap.size a c := h.trans (k.mono h.size)
theorem index_ex (w : World) :
    Calls Tryd.prog 16 #[.int .i64 31000, .int .i64 33500] w fun e w' => e = .returned (.tuple #[.int .i64 1250, .int .i64 16125, .int .i64 0]) ∧ w = w' :=
  index_ok 31000 33500 w (by omega) (by omega) (by omega) (by omega)
set_option maxHeartbeats 1000000 in
theorem awake_any (w : World) : Calls Tryd.prog 5 #[] w fun e w' => e = .returned (.bool true) ∧ Below w.heap.size w w' := by
  have C1 : ∀ (W : World) (A : Option Addr) (c : Nat), Tab W A exL → _ := fun W A c hT => corr_ok (-1500) A c exL 1800000 W hT exL_valid (by omega) (by omega)
  have C2 : ∀ (W : World) (A : Option Addr) (c : Nat), Tab W A exL → _ := fun W A c hT => corr_ok (-1500) A c exL 1 W hT exL_valid (by omega) (by omega)
  rw [exL_c1.1, exL_c1.2] at C1
  rw [exL_c2.1, exL_c2.2] at C2
  have H1 := Lib.hid C1
  have H2 := Lib.hid C2
  clear C1 C2
  go_enter Tryd.func5, Tryd.ntmps5
  go_wp2_with fail
  refine (example_any _).mono ?_
  rintro e w1 ⟨A1, c1, hT1, rfl, hb1⟩
  go_wp2_with fail
  refine (H1.out _ _ _ hT1).mono ?_
  rintro e w2 ⟨rfl, hb2⟩
  go_wp2_with fail
  refine (example_any _).mono ?_
  rintro e w3 ⟨A3, c3, hT3, rfl, hb3⟩
  go_wp2_with fail
  refine (H2.out _ _ _ hT3).mono ?_
  rintro e w4 ⟨rfl, hb4⟩
  go_wp2_with fail
  refine (index_ex _).mono ?_
  rintro e w5 ⟨rfl, rfl⟩
  obtain ⟨q0, q1⟩ := box2 (hb3.mono (by simp))
  have hz3 : w2.heap.size < w3.heap.size := by have := hb3.size; simp at this; omega
  have hz4 : w2.heap.size < w4.heap.size := by have := hb4.size; omega
  have r0 := (hb4.cell (p := ⟨w2.heap.size, 0, none⟩) hz3).trans q0
  have r1 := (hb4.cell (p := ⟨w2.heap.size, 1, none⟩) hz3).trans q1
  have hend : Below w.heap.size w w4 := below_trans (below_trans (below_alloc (below_trans hb1 hb2) _) hb3) hb4
  clear q0 q1 H1 H2 hT1 hT3 hb3 hb4
  go_wp2
  go_ret
  exact ⟨rfl, below_alloc hend _⟩
end Go.Proofs.YtkcelhhhbbpbpaaDoor

/- Contracts of the reference's quotients, and of the index correction and the semidiameter. -/
namespace Go.Proofs.YtkcelhhhbbpbpaaDoor
open Go.RowKit
set_option linter.unusedVariables false

end Go.Proofs.YtkcelhhhbbpbpaaDoor

/- Contract of the reference's Valid, and of steep. -/
namespace Go.Proofs.YtkcelhhhbbpbpaaDoor
open Go.RowKit
set_option linter.unusedVariables false
set_option linter.unusedSimpArgs false

def steepB (x1 y1 x2 y2 : Int) : Bool := decide (x2 - x1 < 10 * (if y1 - y2 ≤ 0 then -(y1 - y2) else y1 - y2))
theorem steep_any (x1 y1 x2 y2 : Int) (w : World) (h1 : 0 ≤ x1 ∧ x1 ≤ 7800000) (h2 : 0 ≤ x2 ∧ x2 ≤ 7800000) (h3 : -10000 ≤ y1 ∧ y1 ≤ 10000) (h4 : -10000 ≤ y2 ∧ y2 ≤ 10000) :
    Calls Tryd.prog 18 #[.agg #[.int .i64 x1, .int .i64 y1], .agg #[.int .i64 x2, .int .i64 y2]] w fun e w' => e = .returned (.bool (steepB x1 y1 x2 y2)) ∧ Below w.heap.size w w' := by
  obtain ⟨h1, h1'⟩ := h1
  obtain ⟨h2, h2'⟩ := h2
  obtain ⟨h3, h3'⟩ := h3
  obtain ⟨h4, h4'⟩ := h4
  go_enter Tryd.func18, Tryd.ntmps18
  go_wp2
  all_goals
    go_ret
    refine ⟨ret_bool ?_, below_alloc (below_alloc (Below.refl _ _) _) _⟩
    unfold steepB
    rw [Bool.eq_iff_iff]
    simp
    split <;> omega
theorem steep_yes {x1 y1 x2 y2 : Int} (h1 : -(x2 - x1) ≤ 10 * (y2 - y1)) (h2 : 10 * (y2 - y1) ≤ x2 - x1) : steepB x1 y1 x2 y2 = false := by
  unfold steepB
  simp
  split <;> omega
theorem steep_no {x1 y1 x2 y2 : Int} (h : 10 * (y2 - y1) < -(x2 - x1) ∨ x2 - x1 < 10 * (y2 - y1)) : steepB x1 y1 x2 y2 = true := by
  unfold steepB
  simp
  split <;> omega
set_option maxHeartbeats 2000000 in
theorem rfValid_any (idx : Int) (A : Option Addr) (c : Nat) (l : List (Int × Int)) (w : World) (hT : Tab w A l) :
    Calls Tryd.prog 8 #[.agg #[.int .i64 idx, .slice A l.length c]] w fun e w' => e = .returned (.bool (vldB idx l)) ∧ Below w.heap.size w w' := by
  have hi' : idx < -60000 ∨ (-60000 ≤ idx ∧ 60000 < idx) ∨ (-60000 ≤ idx ∧ idx ≤ 60000) := by omega
  rcases hi' with hi | ⟨hi0, hi⟩ | ⟨hi1, hi2⟩
  · have hv : Hid (vldB idx l = false) := decide_eq_false (fun hv => by have h1 := hv.1; have h2 := hv.2.1; omega)
    go_enter Tryd.func8, Tryd.ntmps8
    go_wp2
    go_ret
    exact ⟨ret_bool hv.out.symm, (Below.refl _ _).alloc (Nat.le_refl _) _⟩
  · have hv : Hid (vldB idx l = false) := decide_eq_false (fun hv => by have h1 := hv.1; have h2 := hv.2.1; omega)
    go_enter Tryd.func8, Tryd.ntmps8
    go_wp2
    go_ret
    exact ⟨ret_bool hv.out.symm, (Below.refl _ _).alloc (Nat.le_refl _) _⟩
  by_cases hl : 40 < l.length
  · have hv : Hid (vldB idx l = false) := decide_eq_false (fun hv => by have h1 := hv.2.2.1; omega)
    have hl' : (40 : Int) < l.length := by omega
    go_enter Tryd.func8, Tryd.ntmps8
    go_wp2
    go_ret
    exact ⟨ret_bool hv.out.symm, (Below.refl _ _).alloc (Nat.le_refl _) _⟩
  have hl : l.length ≤ 40 := by omega
  go_enter Tryd.func8, Tryd.ntmps8
  go_wp2
  go_loopw [3] (fun i wr => ∃ k : Nat, k ≤ l.length ∧ i = .int .i64 k ∧ Below (w.heap.size + 1) (w.alloc (.cells #[.int .i64 idx, .slice A l.length c] 24)) wr ∧ Hid (∀ j, j < k → OkEnt l j)) (fun i _ => l.length - (intOf i).toNat)
  case atStart => exact ⟨0, Nat.zero_le _, rfl, Below.refl _ _, fun j hj => by omega⟩
  case round =>
    obtain ⟨k, hk, rfl, hb, hok⟩ := hrel
    obtain ⟨hb0, hb1⟩ := box2 hb
    have hsz : w.heap.size < wr.heap.size := by have := hb.size; simp at this; omega
    have hend : Below w.heap.size w wr := ((Below.refl _ _).alloc (Nat.le_refl _) _).trans (hb.mono (by omega))
    by_cases hlt : k < l.length
    · obtain ⟨b, off, rfl, hE⟩ := hT (by omega)
      have hE' := ((hE.below ((Below.refl w.heap.size w).alloc (Nat.le_refl _) _) hE.1).below hb (by have := hE.1; omega))
      obtain ⟨hc0, hc1⟩ := hE'.2 k hlt
      have hno : Hid (¬ OkEnt l k → false = vldB idx l) := fun h => vld_no hlt h
      have hbs : b < wr.heap.size := hE'.1
      by_cases hbad : atAt l k < 0 ∨ 7800000 < atAt l k ∨ valAt l k < -10000 ∨ 10000 < valAt l k
      · have hf : Hid (false = vldB idx l) := hno.out (fun h => by have := h.1; have := h.2.1; have := h.2.2.1; have := h.2.2.2.1; omega)
        have hbad' : atAt l k < 0 ∨ (0 ≤ atAt l k ∧ 7800000 < atAt l k) ∨ (0 ≤ atAt l k ∧ atAt l k ≤ 7800000 ∧ valAt l k < -10000) ∨ (0 ≤ atAt l k ∧ atAt l k ≤ 7800000 ∧ -10000 ≤ valAt l k ∧ 10000 < valAt l k) := by omega
        clear hE' hbad hE
        rcases hbad' with g1 | ⟨g1, g2⟩ | ⟨g1, g2, g3⟩ | ⟨g1, g2, g3, g4⟩
        · have d1 : decide (atAt l k < 0) = true := by simpa using g1
          go_wp2_with fail
          go_quiet (fail)
          go_wp2
          go_ret
          exact ⟨ret_bool hf.out, by repeat (first | exact hend | refine below_drewN ?_ _ | refine below_alloc ?_ _)⟩
        · have d1 : decide (atAt l k < 0) = false := by simpa using g1
          have d2 : decide (7800000 < atAt l k) = true := by simpa using g2
          go_wp2_with fail
          go_quiet (fail)
          go_wp2
          go_ret
          exact ⟨ret_bool hf.out, by repeat (first | exact hend | refine below_drewN ?_ _ | refine below_alloc ?_ _)⟩
        · have d1 : decide (atAt l k < 0) = false := by simpa using g1
          have d2 : decide (7800000 < atAt l k) = false := by simpa using g2
          have d3 : decide (valAt l k < -10000) = true := by simpa using g3
          go_wp2_with fail
          go_quiet (fail)
          go_wp2
          go_ret
          exact ⟨ret_bool hf.out, by repeat (first | exact hend | refine below_drewN ?_ _ | refine below_alloc ?_ _)⟩
        · have d1 : decide (atAt l k < 0) = false := by simpa using g1
          have d2 : decide (7800000 < atAt l k) = false := by simpa using g2
          have d3 : decide (valAt l k < -10000) = false := by simpa using g3
          have d4 : decide (10000 < valAt l k) = true := by simpa using g4
          go_wp2_with fail
          go_quiet (fail)
          go_wp2
          go_ret
          exact ⟨ret_bool hf.out, by repeat (first | exact hend | refine below_drewN ?_ _ | refine below_alloc ?_ _)⟩
      · have ha1 : 0 ≤ atAt l k := by omega
        have ha2 : atAt l k ≤ 7800000 := by omega
        have hv1 : -10000 ≤ valAt l k := by omega
        have hv2 : valAt l k ≤ 10000 := by omega
        clear hbad
        have d1 : decide (atAt l k < 0) = false := by simpa using ha1
        have d2 : decide (7800000 < atAt l k) = false := by simpa using ha2
        have d3 : decide (valAt l k < -10000) = false := by simpa using hv1
        have d4 : decide (10000 < valAt l k) = false := by simpa using hv2
        by_cases hk0 : k = 0
        · have hok1 : Hid (∀ j, j < k + 1 → OkEnt l j) := by
            intro j hj
            obtain rfl : j = k := by omega
            exact ⟨ha1, ha2, hv1, hv2, fun h => by omega⟩
          have d5 : decide ((0 : Int) < k) = false := by simp; omega
          have d6 : decide (0 < k) = false := by simp; omega
          clear hE hE' hk0
          go_wp2_with fail
          go_quiet (fail)
          go_wp2_with fail
          go_quiet (fail)
          go_wp2
          go_roundw
          case rel => exact ⟨k + 1, by omega, by go_num, by repeat (first | exact hb | refine below_drewN ?_ _ | refine Below.alloc ?_ (by omega) _), hok1⟩
          case measure => simp [intOf]; omega
        · obtain ⟨hd0, hd1⟩ := hE'.2 (k - 1) (by omega)
          obtain ⟨hq1, hq2, hu1, hu2, _⟩ := hok.out (k - 1) (by omega)
          have d5 : decide ((0 : Int) < k) = true := by simp; omega
          have d6 : decide (0 < k) = true := by simp; omega
          have E1 : Hid (IntKind.i64.wrap ((k : Int) - 1) = (k : Int) - 1) := IntWalk.i64_in _ (by omega)
          have E2 : Hid (((k : Int) - 1).toNat = k - 1) := by show _ = _; omega
          clear hE' hE
          have G3 : (1 : Int) ≤ k := by omega
          have G4 : (k : Int) - 1 < l.length := by omega
          have G1 : (0 : Int) ≤ (k : Int) - 1 := by omega
          by_cases h4 : atAt l k ≤ atAt l (k - 1)
          · have hf : Hid (false = vldB idx l) := hno.out (fun h => by have := (h.2.2.2.2 (by omega)).1; omega)
            have d7 : decide (atAt l k ≤ atAt l (k - 1)) = true := by simpa using h4
            go_wp2_with fail
            have e1 := E1.out
            have e2 := E2.out
            go_quiet (fail)
            clear e1 e2
            go_wp2
            go_ret
            exact ⟨ret_bool hf.out, by repeat (first | exact hend | refine below_drewN ?_ _ | refine below_alloc ?_ _)⟩
          have d7 : decide (atAt l k ≤ atAt l (k - 1)) = false := by simpa using h4
          by_cases h5 : 10 * (valAt l k - valAt l (k - 1)) < -(atAt l k - atAt l (k - 1)) ∨ atAt l k - atAt l (k - 1) < 10 * (valAt l k - valAt l (k - 1))
          · have hf : Hid (false = vldB idx l) := hno.out (fun h => by have := (h.2.2.2.2 (by omega)).2; omega)
            have HS := Lib.hid (fun W => steep_any (atAt l (k - 1)) (valAt l (k - 1)) (atAt l k) (valAt l k) W ⟨hq1, hq2⟩ ⟨ha1, ha2⟩ ⟨hu1, hu2⟩ ⟨hv1, hv2⟩)
            have HS2 := Lib.hid (steep_no h5)
            go_wp2_with fail
            have e1 := E1.out
            have e2 := E2.out
            go_quiet (fail)
            clear e1 e2
            go_wp2_with fail
            have e1 := E1.out
            have e2 := E2.out
            go_region_with (go_at_call 18; refine (HS.out _).mono ?_; rw [HS2.out]; rintro e w2 ⟨rfl, hb2⟩)
            all_goals
              clear e1 e2
              have hend2 : Below w.heap.size w w2 := by
                refine Below.trans ?_ (hb2.mono ?_)
                · repeat (first | exact hend | refine below_drewN ?_ _ | refine Below.drew ?_ | refine below_alloc ?_ _)
                · simp; omega
              go_wp2
              go_ret
              exact ⟨ret_bool hf.out, hend2⟩
          · have hok1 : Hid (∀ j, j < k + 1 → OkEnt l j) := by
              intro j hj
              by_cases hjk : j = k
              · subst hjk
                exact ⟨ha1, ha2, hv1, hv2, fun h => ⟨by omega, by omega, by omega⟩⟩
              · exact hok.out j (by omega)
            have HS := Lib.hid (fun W => steep_any (atAt l (k - 1)) (valAt l (k - 1)) (atAt l k) (valAt l k) W ⟨hq1, hq2⟩ ⟨ha1, ha2⟩ ⟨hu1, hu2⟩ ⟨hv1, hv2⟩)
            have HS2 := Lib.hid (steep_yes (x1 := atAt l (k - 1)) (y1 := valAt l (k - 1)) (x2 := atAt l k) (y2 := valAt l k) (by omega) (by omega))
            go_wp2_with fail
            have e1 := E1.out
            have e2 := E2.out
            go_quiet (fail)
            clear e1 e2
            go_wp2_with fail
            have e1 := E1.out
            have e2 := E2.out
            go_region_with (go_at_call 18; refine (HS.out _).mono ?_; rw [HS2.out]; rintro e w2 ⟨rfl, hb2⟩)
            all_goals
              clear e1 e2
              have hb3 : Below (w.heap.size + 1) (w.alloc (Obj.cells #[Value.int IntKind.i64 idx, Value.slice (some { block := b, off := off }) l.length c] 24)) w2 := by
                refine Below.trans ?_ (hb2.mono ?_)
                · repeat (first | exact hb | refine below_drewN ?_ _ | refine Below.drew ?_ | refine Below.alloc ?_ (by omega) _)
                · simp; omega
              go_wp2
              go_roundw
              case rel => exact ⟨k + 1, by omega, by go_num, hb3, hok1⟩
              case measure => simp [intOf]; omega
    · have hv : Hid (true = vldB idx l) := (decide_eq_true (⟨hi1, hi2, hl, fun j hj => hok.out j (by omega)⟩ : Valid18 idx l)).symm
      go_wp2
      go_ret
      exact ⟨ret_bool hv.out, hend⟩
end Go.Proofs.YtkcelhhhbbpbpaaDoor
