/- Decimal digits and padded numbers, in plain words. -/
import Derived.Test.YtobmbbmompoliaaDoorTextD
import Derived.Test.YtobmbbmompoliaaDoorAbs
namespace Go.Proofs.YtobmbbmompoliaaDoor
open Go Go.Abs Go.RowKit
set_option linter.unusedVariables false
set_option linter.unusedSimpArgs false
/-- The digits of a number, as many as asked for at least. -/
def digF : Nat → Nat → Nat → List UInt8
  | 0, _, _ => []
  | f + 1, n, k => if n = 0 ∧ k = 0 then [] else digF f (n / 10) (k - 1) ++ [UInt8.ofNat (48 + n % 10)]
def digL (n k : Nat) : List UInt8 := digF (n + k) n k
theorem digF_eq : ∀ (f g n k : Nat), n + k ≤ f → n + k ≤ g → digF f n k = digF g n k
  | 0, g, n, k, h, _ => by
    obtain rfl : n = 0 := by omega
    obtain rfl : k = 0 := by omega
    cases g <;> simp [digF]
  | f + 1, 0, n, k, _, h => by
    obtain rfl : n = 0 := by omega
    obtain rfl : k = 0 := by omega
    simp [digF]
  | f + 1, g + 1, n, k, h1, h2 => by
    unfold digF
    split
    · rfl
    · rw [digF_eq f g (n / 10) (k - 1) (by omega) (by omega)]
theorem digL_zero : digL 0 0 = [] := rfl
theorem digL_step {n k : Nat} (h : ¬ (n = 0 ∧ k = 0)) : digL n k = digL (n / 10) (k - 1) ++ [UInt8.ofNat (48 + n % 10)] := by
  unfold digL
  rw [digF_eq (n + k) (n / 10 + (k - 1) + 1 + (n + k)) n k (Nat.le_refl _) (by omega)]
  rw [show n / 10 + (k - 1) + 1 + (n + k) = (n / 10 + (k - 1) + (n + k)) + 1 by omega, digF, if_neg h, digF_eq _ (n / 10 + (k - 1)) (n / 10) (k - 1) (by omega) (Nat.le_refl _)]
theorem digL_nil : ∀ (k : Nat), digL 0 k = Lib.repeatL [48] k
  | 0 => rfl
  | k + 1 => by
    rw [digL_step (by omega), show (0 : Nat) / 10 = 0 from rfl, show k + 1 - 1 = k by omega, digL_nil k]
    have : ∀ j, Lib.repeatL [48] j ++ [48] = Lib.repeatL [48] (j + 1) := fun j => by
      induction j with
      | zero => rfl
      | succ j ih => show [48] ++ Lib.repeatL [48] j ++ [48] = [48] ++ _; rw [List.append_assoc, ih]
    exact this k
theorem dec_lt (n : Nat) (h : n < 10) : Lib.decDigits n = [UInt8.ofNat (48 + n)] := by rw [Lib.decDigits, dif_pos h]
theorem dec_ge (n : Nat) (h : 10 ≤ n) : Lib.decDigits n = Lib.decDigits (n / 10) ++ [UInt8.ofNat (48 + n % 10)] := by rw [Lib.decDigits, dif_neg (by omega)]
theorem dec_pos (n : Nat) : 1 ≤ (Lib.decDigits n).length := by
  rw [Lib.decDigits]; split <;> simp
/-- A padded number. -/
theorem digL_pad : ∀ (k n : Nat), 1 ≤ k → digL n k = padL k n := by
  intro k
  induction k with
  | zero => intro n h; omega
  | succ k ih =>
    intro n _
    unfold padL
    rw [digL_step (by omega), show k + 1 - 1 = k by omega]
    by_cases h : n < 10
    · rw [dec_lt n h, show n / 10 = 0 by omega, show n % 10 = n by omega, digL_nil]
      simp
    · rw [dec_ge n (by omega)]
      by_cases q : k = 0
      · subst q
        have key : ∀ m, digL m 0 = if m = 0 then [] else Lib.decDigits m := by
          intro m
          induction m using Nat.strongRecOn with
          | ind m ih =>
            by_cases e : m = 0
            · subst e; rfl
            · rw [if_neg e, digL_step (by omega), ih (m / 10) (by omega)]
              by_cases h : m < 10
              · rw [dec_lt m h, if_pos (by omega), show m % 10 = m by omega]; rfl
              · rw [dec_ge m (by omega), if_neg (by omega)]
        rw [key, if_neg (by omega)]
        have := dec_pos (n / 10)
        rw [show 0 + 1 - (Lib.decDigits (n / 10) ++ [UInt8.ofNat (48 + n % 10)]).length = 0 by simp]
        rfl
      · rw [ih (n / 10) (by omega)]
        unfold padL
        rw [List.append_assoc, List.length_append, List.length_singleton, Nat.add_sub_add_right]
theorem digL_one (n : Nat) : digL n 1 = Lib.decDigits n := by
  rw [digL_pad 1 n (by omega)]
  unfold padL
  have := dec_pos n
  rw [show 1 - (Lib.decDigits n).length = 0 by omega]
  rfl
theorem digL_len : ∀ (j n k : Nat), n < 10 ^ j → (digL n k).length ≤ max j k := by
  intro j
  induction j with
  | zero =>
    intro n k h
    obtain rfl : n = 0 := by simpa using h
    rw [digL_nil, Lib.repeatL_length]; simp
  | succ j ih =>
    intro n k h
    by_cases q : n = 0 ∧ k = 0
    · rw [q.1, q.2]; simp [digL_zero]
    · rw [digL_step q, List.length_append, List.length_singleton]
      have := ih (n / 10) (k - 1) (by rw [Nat.pow_succ] at h; omega)
      omega
end Go.Proofs.YtobmbbmompoliaaDoor
