/- The correction in the reference's words: at the first entry, at the last one, and between two. No program is in sight here. -/
import Derived.Test.YtdjlickmjfpokaaPlain2
namespace Go.Proofs.Ytdjlickmjfpokaa
open Go Go.RowKit
set_option linter.unusedVariables false

theorem c_lo {l : List (Int × Int)} {hs : Int} (hA : Asc l) (hl : 0 < l.length) (h : hs ≤ atAt l 0) : cLo l hs = valAt l 0 ∧ cHi l hs = valAt l 0 := by
  have hF : Found l hs 0 := by
    refine ⟨Nat.zero_le _, fun k hk => by omega, fun k h1 h2 => ?_⟩
    rcases Nat.eq_zero_or_pos k with rfl | hk
    · exact h
    · have := hA 0 k hk h2; omega
  unfold cLo cHi
  rw [← hF.pos]
  exact arc_at hl (.inr rfl)
theorem c_hi {l : List (Int × Int)} {hs : Int} (hA : Asc l) (hl : 0 < l.length) (h : atAt l (l.length - 1) ≤ hs) : cLo l hs = valAt l (l.length - 1) ∧ cHi l hs = valAt l (l.length - 1) := by
  by_cases he : atAt l (l.length - 1) = hs
  · have hF : Found l hs (l.length - 1) := by
      refine ⟨by omega, fun k hk => ?_, fun k h1 h2 => ?_⟩
      · have := hA k _ hk (by omega : l.length - 1 < l.length); omega
      · obtain rfl : k = l.length - 1 := by omega
        omega
    unfold cLo cHi
    rw [← hF.pos]
    exact arc_at hl (.inl (by unfold there; simp; exact ⟨by omega, he⟩))
  · have hF : Found l hs l.length := by
      refine ⟨Nat.le_refl _, fun k hk => ?_, fun k h1 h2 => by omega⟩
      by_cases hk2 : k = l.length - 1
      · subst hk2; omega
      · have := hA k (l.length - 1) (by omega) (by omega); omega
    unfold cLo cHi
    rw [← hF.pos]
    exact arc_end hl (by unfold there; simp)
theorem c_mid {l : List (Int × Int)} {hs : Int} (hA : Asc l) {p : Nat} (hp : 0 < p) (hl : p < l.length) (h1 : atAt l (p - 1) < hs) (h2 : hs ≤ atAt l p) :
    cLo l hs = valAt l (p - 1) + (valAt l p - valAt l (p - 1)) * (hs - atAt l (p - 1)) / (atAt l p - atAt l (p - 1)) ∧
    cHi l hs = valAt l (p - 1) + -(-((valAt l p - valAt l (p - 1)) * (hs - atAt l (p - 1))) / (atAt l p - atAt l (p - 1))) := by
  have hF : Found l hs p := by
    refine ⟨by omega, fun k hk => ?_, fun k h1 h2 => ?_⟩
    · by_cases hk2 : k = p - 1
      · subst hk2; omega
      · have := hA k (p - 1) (by omega) (by omega); omega
    · by_cases hk2 : k = p
      · subst hk2; omega
      · have := hA p k (by omega) h2; omega
  have hd : 0 < atAt l p - atAt l (p - 1) := by omega
  unfold cLo cHi
  rw [← hF.pos]
  by_cases he : atAt l p = hs
  · obtain ⟨e1, e2⟩ := arc_at (l := l) (hs := hs) (p := p) (by omega) (.inl (by unfold there; simp; exact ⟨hl, he⟩))
    rw [e1, e2, ← he]
    have e3 : (valAt l p - valAt l (p - 1)) * (atAt l p - atAt l (p - 1)) / (atAt l p - atAt l (p - 1)) = valAt l p - valAt l (p - 1) := Int.mul_ediv_cancel _ (by omega)
    have e4 : -((valAt l p - valAt l (p - 1)) * (atAt l p - atAt l (p - 1))) / (atAt l p - atAt l (p - 1)) = -(valAt l p - valAt l (p - 1)) := by
      rw [← Int.neg_mul]; exact Int.mul_ediv_cancel _ (by omega)
    rw [e3, e4]
    omega
  · obtain ⟨e1, e2⟩ := arc_mid (l := l) (hs := hs) (p := p) hp hl (by unfold there; simp; intro _; exact he)
    rw [e1, e2]
    unfold arcNum
    generalize (valAt l p - valAt l (p - 1)) * (hs - atAt l (p - 1)) = m
    generalize atAt l p - atAt l (p - 1) = d at hd
    have e3 : (valAt l (p - 1) * d + m) / d = valAt l (p - 1) + m / d := by rw [Int.add_comm, Int.add_mul_ediv_right _ _ (by omega)]; omega
    have e4 : -(valAt l (p - 1) * d + m) / d = -valAt l (p - 1) + -m / d := by
      rw [show -(valAt l (p - 1) * d + m) = -m + -valAt l (p - 1) * d by rw [Int.neg_mul]; omega, Int.add_mul_ediv_right _ _ (by omega)]; omega
    rw [e3, e4]
    omega
end Go.Proofs.Ytdjlickmjfpokaa
