/- Digits of base 2^28 and their values. -/
import Derived.Test.YtmghbedgfnlpoaaDoorSpecR
namespace Go.Proofs.YtmghbedgfnlpoaaDoor
open Go Go.Abs Go.RowKit
set_option linter.unusedVariables false
set_option linter.unusedSimpArgs false
/-- A list that is handed on whole. -/
theorem tk {x : List Int} {p : List Int → Prop} (h : p x) : 0 + x.length ≤ x.length ∧ ∀ z, z = List.take x.length x → p z :=
  ⟨by omega, fun z hz => by rw [List.take_length] at hz; subst hz; exact h⟩
theorem tke {x y : List Int} {r : Prop} (h : x = y) (hr : r) : x.length ≤ x.length ∧ List.take x.length x = y ∧ r :=
  ⟨Nat.le_refl _, by rw [List.take_length]; exact h, hr⟩
theorem dvI_append : ∀ (l m : List Int), dvI (l ++ m) = dvI l + 268435456 ^ l.length * dvI m
  | [], m => by simp [dvI]
  | x :: l, m => by
    simp only [List.cons_append, dvI, List.length_cons, dvI_append l m, Int.pow_succ]
    grind
theorem digF_eq : ∀ (k j v : Nat), v ≤ k → v ≤ j → digF k v = digF j v
  | 0, j, v, h, _ => by
    have : v = 0 := by omega
    subst this
    cases j <;> simp [digF]
  | k + 1, 0, v, _, h => by
    have : v = 0 := by omega
    subst this
    simp [digF]
  | k + 1, j + 1, v, h1, h2 => by
    unfold digF
    split
    · rfl
    · rw [digF_eq k j (v / 268435456) (by omega) (by omega)]
theorem dig_zero : dig 0 = [] := rfl
theorem dig_pos {v : Nat} (h : v ≠ 0) : dig v = ((v % 268435456 : Nat) : Int) :: dig (v / 268435456) := by
  unfold dig
  rw [digF_eq v (v / 268435456 + 1 + v) v (Nat.le_refl _) (by omega)]
  rw [show v / 268435456 + 1 + v = (v / 268435456 + v) + 1 by omega, digF, if_neg h, digF_eq _ (v / 268435456) (v / 268435456) (by omega) (by omega)]
theorem dvI_dig (v : Nat) : dvI (dig v) = v := by
  induction v using Nat.strongRecOn with
  | ind v ih =>
    by_cases h : v = 0
    · subst h; rw [dig_zero]; rfl
    · rw [dig_pos h, dvI, ih (v / 268435456) (by omega)]
      omega
theorem nv_dig (v : Nat) : nv (dig v) = v := by unfold nv; rw [dvI_dig]; rfl
theorem Dgs_dig (v : Nat) : Dgs (dig v) := by
  induction v using Nat.strongRecOn with
  | ind v ih =>
    by_cases h : v = 0
    · subst h; rw [dig_zero]; intro x hx; cases hx
    · rw [dig_pos h]
      intro x hx
      rcases List.mem_cons.mp hx with q | q
      · omega
      · exact ih (v / 268435456) (by omega) x q
theorem Dgs_cons {x : Int} {l : List Int} : Dgs (x :: l) ↔ (0 ≤ x ∧ x < 268435456) ∧ Dgs l := by
  unfold Dgs; simp
theorem Dgs_append {l m : List Int} : Dgs (l ++ m) ↔ Dgs l ∧ Dgs m := by
  unfold Dgs; simp only [List.mem_append]
  exact ⟨fun h => ⟨fun x q => h x (.inl q), fun x q => h x (.inr q)⟩, fun h x q => q.elim (h.1 x) (h.2 x)⟩
theorem Dgs_nil : Dgs [] := fun x hx => by cases hx
theorem Dgs_one {x : Int} : Dgs [x] ↔ 0 ≤ x ∧ x < 268435456 := by rw [Dgs_cons]; exact ⟨fun h => h.1, fun h => ⟨h, Dgs_nil⟩⟩
theorem dvI_nonneg : ∀ {l : List Int}, Dgs l → 0 ≤ dvI l
  | [], _ => Int.le_refl 0
  | x :: l, h => by
    have := dvI_nonneg (Dgs_cons.mp h).2
    have := (Dgs_cons.mp h).1
    unfold dvI; omega
theorem nv_cast {l : List Int} (h : Dgs l) : ((nv l : Nat) : Int) = dvI l := Int.toNat_of_nonneg (dvI_nonneg h)
theorem dig_cons {x : Int} {v : Nat} (h0 : 0 ≤ x) (h1 : x < 268435456) (h : x ≠ 0 ∨ v ≠ 0) : dig (x.toNat + 268435456 * v) = x :: dig v := by
  rw [dig_pos (by omega)]
  have e1 : (((x.toNat + 268435456 * v) % 268435456 : Nat) : Int) = x := by omega
  have e2 : (x.toNat + 268435456 * v) / 268435456 = v := by omega
  rw [e1, e2]
/-- Digits without a zero at the end come back. -/
theorem dig_last : ∀ {l : List Int} {x : Int}, Dgs (l ++ [x]) → x ≠ 0 → dig (nv (l ++ [x])) = l ++ [x]
  | [], x, h, hx => by
    have hb := Dgs_one.mp h
    have e : nv ([] ++ [x]) = x.toNat + 268435456 * 0 := by unfold nv; simp [dvI]
    rw [e, dig_cons hb.1 hb.2 (.inl hx), dig_zero]; rfl
  | y :: l, x, h, hx => by
    have hb := Dgs_cons.mp (show Dgs (y :: (l ++ [x])) from h)
    have ih := dig_last hb.2 hx
    have hn := dvI_nonneg hb.2
    have e : nv (y :: l ++ [x]) = y.toNat + 268435456 * nv (l ++ [x]) := by
      show (y + 268435456 * dvI (l ++ [x])).toNat = _
      unfold nv; have := hb.1; omega
    have nz : nv (l ++ [x]) ≠ 0 := fun q => by rw [q, dig_zero] at ih; simp at ih
    rw [e, dig_cons hb.1.1 hb.1.2 (.inr nz), ih]; rfl
theorem dig_length : ∀ (k : Nat) {v : Nat}, v < 268435456 ^ k → (dig v).length ≤ k
  | 0, v, h => by have : v = 0 := by simpa using h
                  subst this; rw [dig_zero]; exact Nat.le_refl 0
  | k + 1, v, h => by
    by_cases q : v = 0
    · subst q; rw [dig_zero]; exact Nat.zero_le _
    · rw [dig_pos q, List.length_cons]
      have : v / 268435456 < 268435456 ^ k := by rw [Nat.pow_succ] at h; exact Nat.div_lt_of_lt_mul (by rw [Nat.mul_comm]; exact h)
      have := dig_length k this
      omega
theorem take_last {l : List Int} {i : Nat} (h : i < l.length) : l.take (i + 1) = l.take i ++ [l.getD i 0] := by
  rw [List.take_succ_eq_append_getElem h]; simp [List.getD, h]
theorem drop_first {l : List Int} {i : Nat} (h : i < l.length) : l.drop i = l.getD i 0 :: l.drop (i + 1) := by
  rw [List.drop_eq_getElem_cons h]; simp [List.getD, h]
theorem Dgs_take {l : List Int} (h : Dgs l) (i : Nat) : Dgs (l.take i) := fun x hx => h x (List.mem_of_mem_take hx)
theorem Dgs_drop {l : List Int} (h : Dgs l) (i : Nat) : Dgs (l.drop i) := fun x hx => h x (List.mem_of_mem_drop hx)
theorem Dgs_getD {l : List Int} (h : Dgs l) (i : Nat) : 0 ≤ l.getD i 0 ∧ l.getD i 0 < 268435456 := by
  by_cases q : i < l.length
  · have : l.getD i 0 = l[i] := by simp [List.getD, q]
    rw [this]; exact h _ (List.getElem_mem q)
  · have : l.getD i 0 = 0 := by simp [List.getD, q]
    rw [this]; omega
theorem Can.dgs {l : List Int} (h : Can l) : Dgs l := by rw [h.1]; exact Dgs_dig _
theorem Can_dig {v : Nat} (h : v < 268435456 ^ 50) : Can (dig v) := ⟨by rw [nv_dig], dig_length 50 h⟩
theorem dvI_lt : ∀ {l : List Int}, Dgs l → dvI l < 268435456 ^ l.length
  | [], _ => by decide
  | x :: l, h => by
    have h1 := dvI_lt (Dgs_cons.mp h).2
    have h2 := (Dgs_cons.mp h).1
    rw [List.length_cons, Int.pow_succ]
    unfold dvI
    generalize (268435456 : Int) ^ l.length = p at *
    omega
end Go.Proofs.YtmghbedgfnlpoaaDoor
