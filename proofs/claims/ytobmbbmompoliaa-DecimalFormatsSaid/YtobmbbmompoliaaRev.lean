/- Lists that are turned round; texts that are written from the right. -/
import Derived.Test.YtobmbbmompoliaaSpecM
namespace Go.Proofs.Ytobmbbmompoliaa
open Go Go.Abs Go.RowKit
set_option linter.unusedVariables false
set_option linter.unusedSimpArgs false
theorem revA_len (l : List Int) (i : Nat) : (revA l i).length = l.length := by unfold revA; simp
theorem revA_getD (l : List Int) (i t : Nat) (h : t < l.length) : (revA l i).getD t 0 = if t < i ∨ l.length - i ≤ t then l.getD (l.length - 1 - t) 0 else l.getD t 0 := by
  unfold revA
  simp [List.getD, h]
theorem getD_ext {l m : List Int} (h : l.length = m.length) (k : ∀ t, t < l.length → l.getD t 0 = m.getD t 0) : l = m := by
  apply List.ext_getElem h
  intro t h1 h2
  have := k t h1
  simpa [List.getD, h1, h2] using this
theorem revA_zero (l : List Int) : revA l 0 = l := by
  refine getD_ext (revA_len l 0) (fun t ht => ?_)
  rw [revA_len] at ht
  rw [revA_getD l 0 t ht, if_neg (by omega)]
theorem revA_done {l : List Int} {i : Nat} (h : l.length ≤ 2 * i + 1) : revA l i = l.reverse := by
  refine getD_ext (by rw [revA_len, List.length_reverse]) (fun t ht => ?_)
  rw [revA_len] at ht
  rw [revA_getD l i t ht]
  have e : l.reverse.getD t 0 = l.getD (l.length - 1 - t) 0 := by
    simp [List.getD, ht, show l.length - 1 - t < l.length by omega]
  rw [e]
  split
  · rfl
  · congr 1; omega
theorem set_getD (l : List Int) (i t : Nat) (x : Int) : (l.set i x).getD t 0 = if t = i ∧ i < l.length then x else l.getD t 0 := by
  by_cases h : t = i
  · subst h
    by_cases q : t < l.length
    · simp [List.getD, q]
    · simp [List.getD, q]
  · rw [if_neg (fun q => h q.1)]
    simp [List.getD, List.getElem?_set_ne (Ne.symm h)]
theorem revA_step {l : List Int} {i : Nat} (h : 2 * i + 1 < l.length) :
    ((revA l i).set i ((revA l i).getD (l.length - 1 - i) 0)).set (l.length - 1 - i) ((revA l i).getD i 0) = revA l (i + 1) := by
  refine getD_ext (by simp [revA_len]) (fun t ht => ?_)
  have ht : t < l.length := by simpa [revA_len] using ht
  rw [set_getD, set_getD, revA_getD l (i + 1) t ht, revA_getD l i i (by omega), revA_getD l i (l.length - 1 - i) (by omega), revA_getD l i t ht, List.length_set, revA_len]
  by_cases a : t = l.length - 1 - i
  · rw [if_pos ⟨a, by omega⟩, if_neg (by omega), if_pos (by omega)]
    congr 1; omega
  · rw [if_neg (fun q => a q.1)]
    by_cases b : t = i
    · rw [if_pos ⟨b, by omega⟩, if_neg (by omega), if_pos (by omega)]
      congr 1; omega
    · rw [if_neg (fun q => b q.1)]
      by_cases c : t < i ∨ l.length - i ≤ t
      · rw [if_pos c, if_pos (by omega)]
      · rw [if_neg c, if_neg (by omega)]
theorem strV_app : ∀ (l : List UInt8) (s : ByteArray), (l.map fun b => (b.toNat : Int)).foldl (fun r n => r.push (UInt8.ofNat n.toNat)) s = ⟨s.data ++ l.toArray⟩ := fun l s => foldl_push_byteCells l s
theorem strV_map (l : List UInt8) : strV (l.map fun b => (b.toNat : Int)) = ⟨l.toArray⟩ := by
  unfold strV
  rw [strV_app]
  simp
theorem strV_one (b : UInt8) : strV [(b.toNat : Int)] = ⟨[b].toArray⟩ := strV_map [b]
theorem bytR_len (l : List UInt8) : (bytR l).length = l.length := by unfold bytR; simp
theorem bytR_cons (b : UInt8) (l : List UInt8) : bytR (b :: l) = bytR l ++ [(b.toNat : Int)] := by unfold bytR; simp
theorem bytR_rev (l : List UInt8) : strV (bytR l).reverse = ⟨l.toArray⟩ := by
  unfold bytR
  rw [← List.map_reverse, List.reverse_reverse, strV_map]
theorem remR_far {m i k : Nat} (h : k < i) : remR m i k = digL m 0 := by unfold remR; rw [if_neg (by omega)]
theorem remR_near {m i k : Nat} (h : i ≤ k) : remR m i k = digL (m / 10 ^ (k - i)) 1 ++ (if k = 0 then [] else [46]) ++ digL (m % 10 ^ (k - i)) (k - i) := by unfold remR; rw [if_pos h]
/-- A digit of the fraction is written. -/
theorem rem_frac {m i k : Nat} (h : i < k) : remR m i k = remR (m / 10) (i + 1) k ++ [UInt8.ofNat (48 + m % 10)] := by
  rw [remR_near (by omega), remR_near (by omega)]
  obtain ⟨j, hj⟩ : ∃ j, k - i = j + 1 := ⟨k - i - 1, by omega⟩
  rw [hj, show k - (i + 1) = j by omega, digL_step (n := m % 10 ^ (j + 1)) (k := j + 1) (by omega)]
  have e1 : m / 10 ^ (j + 1) = m / 10 / 10 ^ j := by rw [Nat.pow_succ, Nat.mul_comm, Nat.div_div_eq_div_mul]
  have e2 : m % 10 ^ (j + 1) / 10 = m / 10 % 10 ^ j := by rw [Nat.pow_succ, Nat.mul_comm, Nat.mod_mul_right_div_self]
  have e3 : m % 10 ^ (j + 1) % 10 = m % 10 := Nat.mod_mod_of_dvd m ⟨10 ^ j, by rw [Nat.pow_succ, Nat.mul_comm]⟩
  rw [e1, e2, e3, show j + 1 - 1 = j by omega]
  simp [List.append_assoc]
/-- The point is written, and the digit before it. -/
theorem rem_point {m k : Nat} : remR m k k = remR (m / 10) (k + 1) k ++ [UInt8.ofNat (48 + m % 10)] ++ (if k = 0 then [] else [46]) := by
  rw [remR_near (Nat.le_refl k), remR_far (by omega), Nat.sub_self, Nat.pow_zero, Nat.div_one, Nat.mod_one, digL_zero, digL_step (n := m) (k := 1) (by omega)]
  simp
theorem rem_whole {m i k : Nat} (h : k < i) (hm : m ≠ 0) : remR m i k = remR (m / 10) (i + 1) k ++ [UInt8.ofNat (48 + m % 10)] := by
  rw [remR_far h, remR_far (by omega), digL_step (n := m) (k := 0) (by omega)]
theorem rem_len {m : Nat} {k : Nat} (h : m < 10 ^ 19) (hk : k ≤ 9) : (remR m 0 k).length ≤ 40 := by
  rw [remR_near (by omega), Nat.sub_zero]
  have a := digL_len 19 (m / 10 ^ k) 1 (Nat.lt_of_le_of_lt (Nat.div_le_self _ _) h)
  have b := digL_len 19 (m % 10 ^ k) k (Nat.lt_of_le_of_lt (Nat.mod_le _ _) h)
  rw [List.length_append, List.length_append]
  split <;> simp <;> omega
end Go.Proofs.Ytobmbbmompoliaa
