/- A number's own text stands for the number, in plain words. -/
import Derived.Test.YtkcelhhhbbpbpaaDoorPlainP
namespace Go.Proofs.YtkcelhhhbbpbpaaDoor
open Go Go.Abs Go.RowKit
set_option linter.unusedVariables false
set_option linter.unusedSimpArgs false
theorem rT_core (D F : List UInt8) (x y : UInt8) (mi : Bool) (hD : D ≠ []) (hl : 1 < D.length → D.head? ≠ some 48) (hx : dig x = true) (hy : dig y = true) (x5 : x.toNat ≤ 53)
    (hF : F.all dig = true) (f1 : F ≠ []) (f3 : F.length ≤ 3) (hN : decN D * 60000 + (10 * (x.toNat - 48) + (y.toNat - 48)) * 1000 + decN F * 10 ^ (3 - F.length) ≤ 1099511627776) :
    rT D (45 :: x :: y :: 46 :: F) mi = (if mi = true then -((decN D * 60000 + (10 * (x.toNat - 48) + (y.toNat - 48)) * 1000 + decN F * 10 ^ (3 - F.length) : Nat) : Int) else ((decN D * 60000 + (10 * (x.toNat - 48) + (y.toNat - 48)) * 1000 + decN F * 10 ^ (3 - F.length) : Nat) : Int), 0) := by
  have fl : F.length ≠ 0 := fun h => f1 (List.eq_nil_of_length_eq_zero h)
  unfold rT
  rw [if_neg (by rintro (h | h); exact hD h; exact hl h.1 h.2)]
  dsimp only
  rw [if_neg (by rintro (h | h | h | h); exact h rfl; rw [hx] at h; cases h; rw [hy] at h; cases h; omega)]
  rw [show (46 :: F).drop 1 = F from rfl, show (46 :: F).length - 1 = F.length from rfl]
  rw [if_neg (by
    rintro ⟨-, h | h | h | h⟩
    · exact h rfl
    · exact fl (by simpa using h)
    · simp at h; omega
    · rw [hF] at h; cases h), if_neg (by omega), if_neg (by omega)]
theorem dig_of {l : List UInt8} (h : ∀ b ∈ l, 48 ≤ b.toNat ∧ b.toNat ≤ 57) : l.all dig = true := all_iff.mpr h
theorem back_core (m : Nat) (mi : Bool) (h : m ≤ 1099511627776) : rT ((coreL m).takeWhile dig) ((coreL m).dropWhile dig) mi = (if mi = true then -(m : Int) else (m : Int), 0) := by
  have hc : coreL m = digL (m / 60000) 1 ++ 45 :: (digL (m % 60000 / 1000) 2 ++ 46 :: (if m % 1000 % 100 = 0 then digL (m % 1000 / 100) 1 else digL (m % 1000) 3)) := by
    unfold coreL
    rw [digL_one, digL_one, digL_pad 2 _ (by omega), digL_pad 3 _ (by omega)]
    simp [List.append_assoc]
  have hD := digL_dig (m / 60000) 1
  have eD := decN_digL (m / 60000) 1
  have lD := @digL_lead (m / 60000)
  obtain ⟨cD, rD, sD⟩ := digL_some (m / 60000)
  have hM := digL_dig (m % 60000 / 1000) 2
  have eM := decN_digL (m % 60000 / 1000) 2
  have lM := digL_lenE 2 (m % 60000 / 1000) (by omega)
  obtain ⟨F, hF0, hF1, hF2, hF3, hF4⟩ : ∃ F : List UInt8, (if m % 1000 % 100 = 0 then digL (m % 1000 / 100) 1 else digL (m % 1000) 3) = F ∧ F.all dig = true ∧ F ≠ [] ∧ F.length ≤ 3 ∧ decN F * 10 ^ (3 - F.length) = m % 1000 := by
    refine ⟨_, rfl, ?_⟩
    split
    · have l1 := digL_lenE 1 (m % 1000 / 100) (by omega)
      refine ⟨dig_of (digL_dig _ _), fun e => by rw [e] at l1; simp at l1, by omega, ?_⟩
      rw [decN_digL, l1]
      show m % 1000 / 100 * 100 = _
      omega
    · have l1 := digL_lenE 3 (m % 1000) (by omega)
      refine ⟨dig_of (digL_dig _ _), fun e => by rw [e] at l1; simp at l1, by omega, ?_⟩
      rw [decN_digL, l1]
      show m % 1000 * 1 = _
      omega
  rw [hc, hF0]
  generalize digL (m / 60000) 1 = D at *
  generalize digL (m % 60000 / 1000) 2 = M at *
  obtain ⟨x, y, rfl⟩ : ∃ x y, M = [x, y] := by
    match M, lM with
    | [x, y], _ => exact ⟨x, y, rfl⟩
  obtain ⟨w1, w2⟩ := while_all (p := dig) (l := D) (45 :: ([x, y] ++ 46 :: F)) (fun b hb => dig_iff.mpr (hD b hb)) (fun c q e => by
        obtain ⟨rfl, -⟩ : 45 = c ∧ _ = q := by simpa using e
        decide)
  rw [w1, w2]
  have hx := hM x (by simp)
  have hy := hM y (by simp)
  have e2 : decN [x, y] = 10 * (x.toNat - 48) + (y.toNat - 48) := by
    show 10 * (10 * 0 + (x.toNat - 48)) + (y.toNat - 48) = _
    omega
  rw [e2] at eM
  have x5 : x.toNat ≤ 53 := by omega
  have hs : decN D * 60000 + (10 * (x.toNat - 48) + (y.toNat - 48)) * 1000 + decN F * 10 ^ (3 - F.length) = m := by
    rw [eD, eM, hF4]; omega
  show rT D (45 :: x :: y :: 46 :: F) mi = _
  rw [rT_core D F x y mi (by rw [sD]; simp) (fun h => by
    obtain ⟨c', r', e, hc'⟩ := lD h
    rw [e]
    intro e2
    have : c' = 48 := by simpa using e2
    rw [this] at hc'
    exact hc' rfl) (dig_iff.mpr hx) (dig_iff.mpr hy) x5 hF1 hF2 hF3 (by omega), hs]
/-- A number's own text. -/
theorem par_back (n : Int) (h : n.natAbs ≤ 1099511627776) : parL ((if n < 0 then [45] else []) ++ coreL n.natAbs) = (n, 0) := by
  unfold parL
  have hne : ∃ c r, coreL n.natAbs = c :: r ∧ c ≠ 45 := by
    unfold coreL
    rw [← digL_one]
    obtain ⟨c, r, e⟩ := digL_some (n.natAbs / 60000)
    have := digL_dig (n.natAbs / 60000) 1 c (by rw [e]; simp)
    refine ⟨c, _, by rw [e]; rfl, ?_⟩
    rintro rfl
    revert this; decide
  by_cases q : n < 0
  · rw [if_pos q]
    have e1 : neg ([45] ++ coreL n.natAbs) = true := rfl
    have e2 : body ([45] ++ coreL n.natAbs) = coreL n.natAbs := rfl
    rw [e1, e2, back_core _ _ h, if_pos rfl]
    rw [show -((n.natAbs : Nat) : Int) = n by omega]
  · rw [if_neg q, List.nil_append]
    obtain ⟨c, r, e, hc⟩ := hne
    have nb : (45 == c) = false := by rw [beq_eq_false_iff_ne]; exact fun e => hc e.symm
    have e1 : neg (coreL n.natAbs) = false := by rw [e]; unfold neg Lib.hasPrefix; simp [List.isPrefixOf, nb]
    have e2 : body (coreL n.natAbs) = coreL n.natAbs := by
      unfold neg at e1
      unfold body Lib.trimPrefix
      rw [e1]
      rfl
    rw [e1, e2, back_core _ _ h, if_neg (by decide)]
    rw [show ((n.natAbs : Nat) : Int) = n by omega]
end Go.Proofs.YtkcelhhhbbpbpaaDoor
