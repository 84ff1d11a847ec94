/- Decimal digits, read: in plain words. -/
import Derived.Test.YtkcelhhhbbpbpaaDoorStrs
namespace Go.Proofs.YtkcelhhhbbpbpaaDoor
open Go Go.Abs Go.RowKit
set_option linter.unusedVariables false
set_option linter.unusedSimpArgs false
/-- The number that digits stand for. -/
def decN (l : List UInt8) : Nat := l.foldl (fun a b => 10 * a + (b.toNat - 48)) 0
def dig (b : UInt8) : Bool := Nat.ble 48 b.toNat && Nat.ble b.toNat 57
theorem dig_iff {b : UInt8} : dig b = true ↔ 48 ≤ b.toNat ∧ b.toNat ≤ 57 := by unfold dig; rw [Bool.and_eq_true]; exact ⟨fun h => ⟨Nat.le_of_ble_eq_true h.1, Nat.le_of_ble_eq_true h.2⟩, fun h => ⟨Nat.ble_eq_true_of_le h.1, Nat.ble_eq_true_of_le h.2⟩⟩
theorem dig_no {b : UInt8} : dig b = false ↔ (b.toNat < 48 ∨ 57 < b.toNat) := by
  rw [← Bool.not_eq_true, dig_iff]; omega
theorem digit_toNat (m : Nat) : (UInt8.ofNat (48 + m % 10)).toNat = 48 + m % 10 := by simp [UInt8.toNat_ofNat']; omega
theorem digF_dig : ∀ f n k, ∀ b ∈ digF f n k, 48 ≤ b.toNat ∧ b.toNat ≤ 57
  | 0, _, _, b, h => by simp [digF] at h
  | f + 1, n, k, b, h => by
    unfold digF at h
    split at h
    · simp at h
    · rcases List.mem_append.mp h with h | h
      · exact digF_dig f _ _ b h
      · have : b = UInt8.ofNat (48 + n % 10) := by simpa using h
        rw [this, digit_toNat]; omega
theorem digL_dig (n k : Nat) : ∀ b ∈ digL n k, 48 ≤ b.toNat ∧ b.toNat ≤ 57 := digF_dig _ _ _
theorem digL_lenE : ∀ (k n : Nat), n < 10 ^ k → (digL n k).length = k
  | 0, n, h => by
    have : n = 0 := by simpa using h
    subst this; rfl
  | k + 1, n, h => by
    rw [digL_step (by omega), List.length_append, show k + 1 - 1 = k by omega, digL_lenE k (n / 10) (by rw [Nat.pow_succ] at h; omega)]
    rfl
theorem decN_snoc (a : List UInt8) (c : UInt8) : decN (a ++ [c]) = 10 * decN a + (c.toNat - 48) := by unfold decN; rw [List.foldl_append]; rfl
theorem decN_mono : ∀ (b a : List UInt8), decN a ≤ decN (a ++ b)
  | [], a => by rw [List.append_nil]; exact Nat.le_refl _
  | c :: b, a => by
    have h := decN_mono b (a ++ [c])
    rw [decN_snoc, List.append_assoc] at h
    have : [c] ++ b = c :: b := rfl
    rw [this] at h
    omega
theorem decN_digF : ∀ f n k, n + k ≤ f → decN (digF f n k) = n
  | 0, n, k, h => by
    obtain rfl : n = 0 := by omega
    rfl
  | f + 1, n, k, h => by
    unfold digF
    split
    · rename_i c; rw [c.1]; rfl
    · rw [decN_snoc, decN_digF f (n / 10) (k - 1) (by omega), digit_toNat]; omega
theorem decN_digL (n k : Nat) : decN (digL n k) = n := decN_digF _ _ _ (Nat.le_refl _)
theorem digF_lead : ∀ f n, n ≠ 0 → n ≤ f → ∃ c r, digF f n 0 = c :: r ∧ c.toNat ≠ 48
  | 0, n, h0, h => absurd (by omega) h0
  | f + 1, n, h0, h => by
    unfold digF
    rw [if_neg (by omega)]
    by_cases q : n / 10 = 0
    · refine ⟨UInt8.ofNat (48 + n % 10), [], ?_, by rw [digit_toNat]; omega⟩
      rw [q]
      cases f <;> rfl
    · obtain ⟨c, r, e, hc⟩ := digF_lead f (n / 10) q (by omega)
      exact ⟨c, r ++ [UInt8.ofNat (48 + n % 10)], by rw [e]; rfl, hc⟩
theorem digL_lead {n : Nat} (h : 1 < (digL n 1).length) : ∃ c r, digL n 1 = c :: r ∧ c.toNat ≠ 48 := by
  rw [digL_step (by omega), show (1 : Nat) - 1 = 0 from rfl] at h ⊢
  by_cases q : n / 10 = 0
  · rw [q] at h; simp [digL_zero] at h
  · obtain ⟨c, r, e, hc⟩ := digF_lead (n / 10 + 0) (n / 10) q (Nat.le_refl _)
    exact ⟨c, r ++ [UInt8.ofNat (48 + n % 10)], by unfold digL; rw [e]; rfl, hc⟩
theorem digL_some (n : Nat) : ∃ c r, digL n 1 = c :: r := by
  cases e : digL n 1 with
  | nil => rw [digL_step (by omega)] at e; simp at e
  | cons c r => exact ⟨c, r, rfl⟩
theorem decN_lt : ∀ l : List UInt8, (∀ b ∈ l, 48 ≤ b.toNat ∧ b.toNat ≤ 57) → decN l < 10 ^ l.length := by
  intro l
  have key : ∀ (l : List UInt8) (a : Nat), (∀ b ∈ l, 48 ≤ b.toNat ∧ b.toNat ≤ 57) → l.foldl (fun a b => 10 * a + (b.toNat - 48)) a < (a + 1) * 10 ^ l.length := by
    intro l
    induction l with
    | nil => intro a _; simp
    | cons c l ih =>
      intro a h
      have h1 := ih (10 * a + (c.toNat - 48)) (fun b hb => h b (by simp [hb]))
      have h2 := h c (by simp)
      have h3 : (10 * a + (c.toNat - 48) + 1) * 10 ^ l.length ≤ (10 * (a + 1)) * 10 ^ l.length := Nat.mul_le_mul_right _ (by omega)
      simp only [List.foldl_cons, List.length_cons]
      rw [Nat.pow_succ, show (a + 1) * (10 ^ l.length * 10) = (10 * (a + 1)) * 10 ^ l.length by simp [Nat.mul_comm, Nat.mul_assoc, Nat.mul_left_comm]]
      omega
  intro h
  have := key l 0 h
  simpa [decN] using this
end Go.Proofs.YtkcelhhhbbpbpaaDoor
