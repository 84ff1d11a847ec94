/- Where a reading stands among the entries, as a function; the correction. No program is in sight here. -/
import Derived.Test.YtdjlickmjfpokaaPlain
namespace Go.Proofs.Ytdjlickmjfpokaa
open Go Go.RowKit

noncomputable def pos (l : List (Int × Int)) (hs : Int) : Nat := Classical.epsilon (Found l hs)
theorem Found.pos {l : List (Int × Int)} {hs : Int} {p : Nat} (h : Found l hs p) : p = pos l hs := h.uniq (Classical.epsilon_spec ⟨p, h⟩)
noncomputable def cLo (l : List (Int × Int)) (hs : Int) : Int := arcLo l hs (pos l hs)
noncomputable def cHi (l : List (Int × Int)) (hs : Int) : Int := arcHi l hs (pos l hs)
/-- There is such a place in every list. -/
theorem found_ex (l : List (Int × Int)) (hs : Int) (hA : Asc l) : ∃ p, Found l hs p := by
  have H : ∀ n, n ≤ l.length → ∃ p, p ≤ n ∧ (∀ k, k < p → atAt l k < hs) ∧ ∀ k, p ≤ k → k < n → hs ≤ atAt l k := by
    intro n
    induction n with
    | zero => exact fun _ => ⟨0, Nat.le_refl _, fun k hk => by omega, fun k h1 h2 => by omega⟩
    | succ n ih =>
      intro hn
      obtain ⟨p, h1, h2, h3⟩ := ih (by omega)
      by_cases hp : p = n
      · by_cases hc : atAt l n < hs
        · refine ⟨n + 1, Nat.le_refl _, fun k hk => ?_, fun k h1 h2 => by omega⟩
          by_cases hkn : k = n
          · subst hkn; exact hc
          · exact h2 k (by omega)
        · refine ⟨n, by omega, fun k hk => h2 k (by omega), fun k h1 h2 => ?_⟩
          obtain rfl : k = n := by omega
          omega
      · refine ⟨p, by omega, h2, fun k hk1 hk2 => ?_⟩
        by_cases hkn : k = n
        · subst hkn
          have := hA p k (by omega) (by omega)
          have := h3 p (Nat.le_refl _) (by omega)
          omega
        · exact h3 k hk1 (by omega)
  obtain ⟨p, h1, h2, h3⟩ := H l.length (Nat.le_refl _)
  exact ⟨p, h1, h2, h3⟩
theorem pos_found {l : List (Int × Int)} {hs : Int} (hA : Asc l) : Found l hs (pos l hs) := Classical.epsilon_spec (found_ex l hs hA)
theorem nil_c (hs : Int) : cLo [] hs = 0 ∧ cHi [] hs = 0 := by
  unfold cLo cHi arcLo arcHi
  exact ⟨if_pos rfl, if_pos rfl⟩

/-- Bounds of the correction: it lies between the least and the greatest of the entries' values. -/
theorem num_lo {l : List (Int × Int)} {hs m : Int} {p : Nat} (h1 : m ≤ valAt l (p - 1)) (h2 : m ≤ valAt l p) (_h3 : atAt l (p - 1) < atAt l p) (h4 : atAt l (p - 1) ≤ hs) (h5 : hs ≤ atAt l p) :
    m * (atAt l p - atAt l (p - 1)) ≤ arcNum l hs p := by
  unfold arcNum
  have a1 : 0 ≤ (valAt l (p - 1) - m) * (atAt l p - hs) := Int.mul_nonneg (by omega) (by omega)
  have a2 : 0 ≤ (valAt l p - m) * (hs - atAt l (p - 1)) := Int.mul_nonneg (by omega) (by omega)
  grind
theorem num_hi {l : List (Int × Int)} {hs m : Int} {p : Nat} (h1 : valAt l (p - 1) ≤ m) (h2 : valAt l p ≤ m) (_h3 : atAt l (p - 1) < atAt l p) (h4 : atAt l (p - 1) ≤ hs) (h5 : hs ≤ atAt l p) :
    arcNum l hs p ≤ m * (atAt l p - atAt l (p - 1)) := by
  unfold arcNum
  have a1 : 0 ≤ (m - valAt l (p - 1)) * (atAt l p - hs) := Int.mul_nonneg (by omega) (by omega)
  have a2 : 0 ≤ (m - valAt l p) * (hs - atAt l (p - 1)) := Int.mul_nonneg (by omega) (by omega)
  grind
theorem up_down {a b : Int} (hb : 0 < b) : a / b ≤ -(-a / b) ∧ -(-a / b) ≤ a / b + 1 ∧ (-(-a / b)) * b < a + b ∧ a ≤ (-(-a / b)) * b := by
  have h1 := Int.emod_add_mul_ediv a b
  have h2 := Int.emod_add_mul_ediv (-a) b
  have h3 := Int.emod_nonneg a (show b ≠ 0 by omega)
  have h4 := Int.emod_lt_of_pos a hb
  have h5 := Int.emod_nonneg (-a) (show b ≠ 0 by omega)
  have h6 := Int.emod_lt_of_pos (-a) hb
  have h7 : (-(-a / b)) * b = -(b * (-a / b)) := by grind
  refine ⟨?_, ?_, by omega, by omega⟩
  · rcases Int.lt_trichotomy (a / b) (-(-a / b)) with h | h | h
    · omega
    · omega
    · have : b * 1 ≤ b * (a / b + (-a / b)) := Int.mul_le_mul_of_nonneg_left (by omega) (by omega)
      rw [Int.mul_add] at this
      omega
  · rcases Int.lt_trichotomy (-(-a / b)) (a / b + 1) with h | h | h
    · omega
    · omega
    · have : b * (a / b + (-a / b)) ≤ b * (-2) := Int.mul_le_mul_of_nonneg_left (by omega) (by omega)
      rw [Int.mul_add] at this
      omega
/-- The four ways of the arc's error, at a valid instrument. -/
theorem c_cases {idx : Int} {l : List (Int × Int)} (hv : Valid18 idx l) (hl : 0 < l.length) (hs : Int) :
    (∃ k, k < l.length ∧ cLo l hs = valAt l k ∧ cHi l hs = valAt l k) ∨
    ∃ p, 0 < p ∧ p < l.length ∧ atAt l (p - 1) < hs ∧ hs < atAt l p ∧ atAt l (p - 1) < atAt l p ∧ cLo l hs = arcNum l hs p / (atAt l p - atAt l (p - 1)) ∧ cHi l hs = -(-arcNum l hs p / (atAt l p - atAt l (p - 1))) := by
  have hA := asc_of hv
  have hF := pos_found (hs := hs) hA
  obtain ⟨h1, h2, h3⟩ := hF
  unfold cLo cHi
  generalize pos l hs = p at *
  by_cases ht : there l hs p = true
  · have hp : p < l.length := by unfold there at ht; simp at ht; exact ht.1
    exact .inl ⟨p, hp, arc_at hl (.inl ht)⟩
  · have ht : there l hs p = false := by simpa using ht
    by_cases hp0 : p = 0
    · exact .inl ⟨p, by omega, arc_at hl (.inr hp0)⟩
    · by_cases hpl : p = l.length
      · subst hpl
        exact .inl ⟨l.length - 1, by omega, arc_end hl ht⟩
      · refine .inr ⟨p, by omega, by omega, h2 (p - 1) (by omega), ?_, hA (p - 1) p (by omega) (by omega), arc_mid (by omega) (by omega) ht⟩
        have := h3 p (Nat.le_refl _) (by omega)
        unfold there at ht
        simp at ht
        have := ht (by omega)
        omega
theorem c_bd {idx : Int} {l : List (Int × Int)} (hv : Valid18 idx l) {hs m M : Int} (hl : 0 < l.length) (hm : ∀ k, k < l.length → m ≤ valAt l k ∧ valAt l k ≤ M) :
    m ≤ cLo l hs ∧ cHi l hs ≤ M ∧ cLo l hs ≤ cHi l hs ∧ cHi l hs ≤ cLo l hs + 1 := by
  rcases c_cases hv hl hs with ⟨k, hk, h1, h2⟩ | ⟨p, hp0, hpl, ha, hb, hd, h1, h2⟩
  · have := hm k hk
    omega
  · have m1 := hm p hpl
    have m2 := hm (p - 1) (by omega)
    have n1 := num_lo (l := l) (hs := hs) (m := m) (p := p) m2.1 m1.1 hd (by omega) (by omega)
    have n2 := num_hi (l := l) (hs := hs) (m := M) (p := p) m2.2 m1.2 hd (by omega) (by omega)
    have hD : 0 < atAt l p - atAt l (p - 1) := by omega
    obtain ⟨u1, u2, u3, u4⟩ := up_down (a := arcNum l hs p) hD
    rw [h1, h2]
    refine ⟨(Int.le_ediv_iff_mul_le hD).2 n1, ?_, u1, u2⟩
    have : -M ≤ -arcNum l hs p / (atAt l p - atAt l (p - 1)) := (Int.le_ediv_iff_mul_le hD).2 (by rw [Int.neg_mul]; omega)
    omega
theorem c_bd' {idx : Int} {l : List (Int × Int)} (hv : Valid18 idx l) (hs : Int) : -10000 ≤ cLo l hs ∧ cHi l hs ≤ 10000 ∧ cLo l hs ≤ cHi l hs ∧ cHi l hs ≤ cLo l hs + 1 := by
  rcases Nat.eq_zero_or_pos l.length with h | h
  · have hl : l = [] := List.eq_nil_of_length_eq_zero h
    subst hl
    have := nil_c hs
    omega
  · exact c_bd hv h fun k hk => ⟨(hv.2.2.2 k hk).2.2.1, (hv.2.2.2 k hk).2.2.2.1⟩
end Go.Proofs.Ytdjlickmjfpokaa
