/- A number's own text, read back: in plain words. -/
import Derived.Test.YtobmbbmompoliaaSpecQ
namespace Go.Proofs.Ytobmbbmompoliaa
open Go Go.Abs Go.RowKit
set_option linter.unusedVariables false
set_option linter.unusedSimpArgs false
theorem digit_toNat (m : Nat) : (UInt8.ofNat (48 + m % 10)).toNat = 48 + m % 10 := by simp [UInt8.toNat_ofNat']; omega
theorem digF_dig : ∀ f n k, ∀ b ∈ digF f n k, 48 ≤ b.toNat ∧ b.toNat ≤ 57
  | 0, _, _, b, h => by simp [digF] at h
  | f + 1, n, k, b, h => by
    unfold digF at h
    split at h
    · simp at h
    · rcases List.mem_append.mp h with h | h
      · exact digF_dig f _ _ b h
      · have : b = UInt8.ofNat (48 + n % 10) := by simpa using h
        rw [this, digit_toNat]; omega
theorem digL_dig (n k : Nat) : ∀ b ∈ digL n k, 48 ≤ b.toNat ∧ b.toNat ≤ 57 := digF_dig _ _ _
theorem digL_lenE : ∀ (k n : Nat), n < 10 ^ k → (digL n k).length = k
  | 0, n, h => by
    have : n = 0 := by simpa using h
    subst this; rfl
  | k + 1, n, h => by
    rw [digL_step (by omega), List.length_append, show k + 1 - 1 = k by omega, digL_lenE k (n / 10) (by rw [Nat.pow_succ] at h; omega)]
    rfl
theorem decN_snoc (a : List UInt8) (c : UInt8) : decN (a ++ [c]) = 10 * decN a + (c.toNat - 48) := by unfold decN; rw [List.foldl_append]; rfl
theorem decN_mono : ∀ (b a : List UInt8), decN a ≤ decN (a ++ b)
  | [], a => by rw [List.append_nil]; exact Nat.le_refl _
  | c :: b, a => by
    have h := decN_mono b (a ++ [c])
    rw [decN_snoc, List.append_assoc] at h
    have : [c] ++ b = c :: b := rfl
    rw [this] at h
    omega
theorem decN_digF : ∀ f n k, n + k ≤ f → decN (digF f n k) = n
  | 0, n, k, h => by
    obtain rfl : n = 0 := by omega
    rfl
  | f + 1, n, k, h => by
    unfold digF
    split
    · rename_i c; rw [c.1]; rfl
    · rw [decN_snoc, decN_digF f (n / 10) (k - 1) (by omega), digit_toNat]; omega
theorem decN_digL (n k : Nat) : decN (digL n k) = n := decN_digF _ _ _ (Nat.le_refl _)
theorem digL_split : ∀ (k N : Nat), digL N (k + 1) = digL (N / 10 ^ k) 1 ++ digL (N % 10 ^ k) k
  | 0, N => by simp [Nat.mod_one, digL_zero]
  | k + 1, N => by
    have e1 : (N % (10 * 10 ^ k)) / 10 = N / 10 % 10 ^ k := Nat.mod_mul_right_div_self N 10 (10 ^ k)
    have e2 : (N % (10 * 10 ^ k)) % 10 = N % 10 := Nat.mod_mul_right_mod N 10 (10 ^ k)
    have e3 : N / (10 * 10 ^ k) = N / 10 / 10 ^ k := (Nat.div_div_eq_div_mul N 10 (10 ^ k)).symm
    have p : 10 ^ (k + 1) = 10 * 10 ^ k := by rw [Nat.pow_succ, Nat.mul_comm]
    rw [digL_step (n := N) (k := k + 1 + 1) (by omega), digL_step (n := N % 10 ^ (k + 1)) (k := k + 1) (by omega), p, e1, e2, e3, show k + 1 + 1 - 1 = k + 1 by omega, show k + 1 - 1 = k by omega, digL_split k (N / 10), List.append_assoc]
theorem digF_lead : ∀ f n, n ≠ 0 → n ≤ f → ∃ c r, digF f n 0 = c :: r ∧ c.toNat ≠ 48
  | 0, n, h0, h => absurd (by omega) h0
  | f + 1, n, h0, h => by
    unfold digF
    rw [if_neg (by omega)]
    by_cases q : n / 10 = 0
    · refine ⟨UInt8.ofNat (48 + n % 10), [], ?_, by rw [digit_toNat]; omega⟩
      rw [q]
      cases f <;> rfl
    · obtain ⟨c, r, e, hc⟩ := digF_lead f (n / 10) q (by omega)
      exact ⟨c, r ++ [UInt8.ofNat (48 + n % 10)], by rw [e]; rfl, hc⟩
theorem digL_lead {n : Nat} (h : 1 < (digL n 1).length) : ∃ c r, digL n 1 = c :: r ∧ c.toNat ≠ 48 := by
  rw [digL_step (by omega), show (1 : Nat) - 1 = 0 from rfl] at h ⊢
  by_cases q : n / 10 = 0
  · rw [q] at h; simp [digL_zero] at h
  · obtain ⟨c, r, e, hc⟩ := digF_lead (n / 10 + 0) (n / 10) q (Nat.le_refl _)
    exact ⟨c, r ++ [UInt8.ofNat (48 + n % 10)], by unfold digL; rw [e]; rfl, hc⟩
theorem digL_some (n : Nat) : ∃ c r, digL n 1 = c :: r := by
  cases e : digL n 1 with
  | nil => rw [digL_step (by omega)] at e; simp at e
  | cons c r => exact ⟨c, r, rfl⟩
theorem index_none : ∀ (l : List UInt8), (∀ b ∈ l, 48 ≤ b.toNat) → Lib.index l [46] = -1
  | [], _ => rfl
  | b :: l, h => by
    have hb := h b (by simp)
    have nb : (46 == b) = false := by
      rw [beq_eq_false_iff_ne]; intro e; rw [← e] at hb; revert hb; decide
    unfold Lib.index
    rw [index_none l (fun x hx => h x (by simp [hx]))]
    simp [List.isPrefixOf, nb]
theorem index_at : ∀ (l r : List UInt8), (∀ b ∈ l, 48 ≤ b.toNat) → Lib.index (l ++ 46 :: r) [46] = l.length
  | [], r, _ => by show Lib.index (46 :: r) [46] = 0; unfold Lib.index; simp [List.isPrefixOf]
  | b :: l, r, h => by
    have hb := h b (by simp)
    have nb : (46 == b) = false := by
      rw [beq_eq_false_iff_ne]; intro e; rw [← e] at hb; revert hb; decide
    show Lib.index (b :: (l ++ 46 :: r)) [46] = _
    unfold Lib.index
    rw [index_at l r (fun x hx => h x (by simp [hx]))]
    simp [List.isPrefixOf, nb]
theorem cut_none {l : List UInt8} (h : ∀ b ∈ l, 48 ≤ b.toNat) : Lib.cut l [46] = (l, [], false) := by unfold Lib.cut; rw [index_none l h, if_neg (by decide)]
theorem cut_at {l r : List UInt8} (h : ∀ b ∈ l, 48 ≤ b.toNat) : Lib.cut (l ++ 46 :: r) [46] = (l, r, true) := by
  unfold Lib.cut
  rw [index_at l r h, if_pos (by omega)]
  simp
theorem filter_dig {l : List UInt8} (h : ∀ b ∈ l, 48 ≤ b.toNat) : (l.filter fun b => Nat.ble 48 b.toNat) = l := by
  rw [List.filter_eq_self]
  intro b hb
  exact Nat.ble_eq_true_of_le (h b hb)
theorem valF_fB {n k : Int} (h : FOk n k) : valF (fB n k) = n := by
  have hd : decN (digL (n.natAbs / 10 ^ k.toNat) 1 ++ digL (n.natAbs % 10 ^ k.toNat) k.toNat) = n.natAbs := by rw [← digL_split, decN_digL]
  obtain ⟨c, r, hc⟩ := digL_some (n.natAbs / 10 ^ k.toNat)
  have c0 := (digL_dig (n.natAbs / 10 ^ k.toNat) 1 c (by rw [hc]; simp)).1
  have cn : c ≠ 45 := by intro e; rw [e] at c0; revert c0; decide
  have hp : ((if k.toNat = 0 then [] else [46] : List UInt8).filter fun b => Nat.ble 48 b.toNat) = [] := by split <;> rfl
  have hfil : ((digL (n.natAbs / 10 ^ k.toNat) 1 ++ (if k.toNat = 0 then [] else [46]) ++ digL (n.natAbs % 10 ^ k.toNat) k.toNat).filter fun b => Nat.ble 48 b.toNat) = digL (n.natAbs / 10 ^ k.toNat) 1 ++ digL (n.natAbs % 10 ^ k.toNat) k.toNat := by
    rw [List.filter_append, List.filter_append, hp, filter_dig (fun b hb => (digL_dig _ _ b hb).1), filter_dig (fun b hb => (digL_dig _ _ b hb).1), List.append_nil]
  have hl : (fB n k).data.toList = fL n k.toNat := by unfold fB; simp
  unfold valF
  rw [hl]
  unfold fL
  by_cases q : n < 0
  · rw [if_pos q, if_pos (by rfl), List.filter_append, hfil]
    show -1 * ((decN ([] ++ _) : Nat) : Int) = n
    rw [List.nil_append, hd]; omega
  · rw [if_neg q, List.nil_append, hfil, hd, if_neg (by rw [hc]; simpa using cn)]; omega
end Go.Proofs.Ytobmbbmompoliaa
