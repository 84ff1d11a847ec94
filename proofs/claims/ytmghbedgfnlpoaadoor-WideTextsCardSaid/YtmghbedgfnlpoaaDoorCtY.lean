/- The reference's sums and differences of digits. -/
import Derived.Test.YtmghbedgfnlpoaaDoorCtX
namespace Go.Proofs.YtmghbedgfnlpoaaDoor
open Go Go.Abs Go.RowKit
set_option linter.unusedVariables false
set_option linter.unusedSimpArgs false
theorem drop_val (a : List Int) (i : Nat) : dvI (a.drop i) = a.getD i 0 + 268435456 * dvI (a.drop (i + 1)) := by
  rcases Nat.lt_or_ge i a.length with h | h
  · rw [drop_first h, dvI]
  · rw [List.drop_eq_nil_of_le h, List.drop_eq_nil_of_le (by omega)]
    simp [dvI, List.getD, h]
theorem Can_top {a : List Int} {i : Nat} (h : Can a) (hi : i + 1 = a.length) : a.getD i 0 ≠ 0 := fun q => by
  have h1 := dig_long (k := i) (v := nv a) (by rw [← h.1]; omega)
  have h2 := dvI_split (a := a) (i := i) (by omega)
  rw [q, List.drop_eq_nil_of_le (by omega)] at h2
  simp only [dvI, Int.mul_zero, Int.add_zero] at h2
  have h3 := dvI_lt (Dgs_take h.dgs i)
  rw [List.length_take, Nat.min_eq_left (by omega)] at h3
  have h4 := nv_cast h.dgs
  have e : ((268435456 ^ i : Nat) : Int) = 268435456 ^ i := Int.natCast_pow _ _
  omega
variable {Φ : World → Prop} (hst : ∀ w w', Φ w → Below w.heap.size w w' → Φ w')
include hst
theorem c_sum (a b : List Int) (ha : Can a) (hb : Can b) : RAns Tryd.prog Φ 57 [.one (dR a), .one (dR b)] [.one (dR (dig (nv a + nv b)))] := by
  refine rfn_by hst Sound.nil (vc_sum a b) ?_
  have la := ha.2
  have lb := hb.2
  refine ⟨(0, []), ⟨rfl, rfl, rfl, rfl, rfl, rfl, rfl, rfl, rfl, rfl, rfl, trivial⟩, ⟨by decide, by decide, Dgs_nil, by simp, .inr (.inr (by simp [nv, dvI, dig_zero])), by simp [dvI]⟩, fun s h => ?_⟩
  obtain ⟨c, l⟩ := s
  obtain ⟨c0, c1, hd, hl, hm, hv⟩ := h
  dsimp only at c0 c1 hd hl hm hv ⊢
  have hcap : capOk (l.length + 1) 8 = true := cap_yes (by omega)
  have da := Dgs_getD ha.dgs l.length
  have db := Dgs_getD hb.dgs l.length
  have step : ∀ E : Int, E = c + a.getD l.length 0 + b.getD l.length 0 → (l.length < a.length ∨ l.length < b.length ∨ 0 < c) →
    ∃ (s_1 : Int × List Int),
      (a.length = a.length ∧ b.length = b.length ∧ Value.tuple #[] = Value.tuple #[] ∧ Value.tuple #[] = Value.tuple #[] ∧ Value.slice none 0 0 = Value.slice none 0 0 ∧ l.length + 1 = s_1.snd.length ∧ l.length + 1 ≠ 0 ∧ IntKind.i64.wrap (E.tdiv 268435456) = s_1.fst ∧ IntKind.i64.wrap ((↑l.length : Int) + 1) = (↑s_1.snd.length : Int) ∧ a = a ∧ b = b ∧ l ++ [E.tmod 268435456] = s_1.snd ∧ True) ∧
      (0 ≤ s_1.fst ∧ s_1.fst ≤ 1 ∧ Dgs s_1.snd ∧ s_1.snd.length + s_1.fst.toNat ≤ max a.length b.length + 1 ∧ (s_1.snd.length < max a.length b.length ∨ s_1.fst = 1 ∨ dig (nv s_1.snd) = s_1.snd) ∧ dvI s_1.snd + 268435456 ^ s_1.snd.length * (s_1.fst + dvI (List.drop s_1.snd.length a) + dvI (List.drop s_1.snd.length b)) = dvI a + dvI b) ∧
      a.length - s_1.snd.length + (b.length - s_1.snd.length) + s_1.fst.toNat < a.length - l.length + (b.length - l.length) + c.toNat := fun E hE hc => by
    have q1 : E.tdiv 268435456 = E / 268435456 := Int.tdiv_eq_ediv_of_nonneg (by omega)
    have q2 : E.tmod 268435456 = E % 268435456 := Int.tmod_eq_emod_of_nonneg (by omega)
    have ga : ¬ l.length < a.length → a.getD l.length 0 = 0 := fun h => by simp [List.getD, h]
    have gb : ¬ l.length < b.length → b.getD l.length 0 = 0 := fun h => by simp [List.getD, h]
    rw [q1, q2]
    have w1 : IntKind.i64.wrap (E / 268435456) = E / 268435456 := wrap_in (by omega)
    have w2 : IntKind.i64.wrap ((l.length : Int) + 1) = ((l.length + 1 : Nat) : Int) := by rw [wrap_in (by omega)]; omega
    have hlen : (l ++ [E % 268435456]).length = l.length + 1 := by simp
    have hd2 : Dgs (l ++ [E % 268435456]) := Dgs_append.mpr ⟨hd, Dgs_one.mpr (by omega)⟩
    refine ⟨(E / 268435456, l ++ [E % 268435456]), ⟨rfl, rfl, rfl, rfl, rfl, by simp, by omega, w1, by rw [hlen]; exact w2, rfl, rfl, rfl, trivial⟩, ⟨by show 0 ≤ E / 268435456; omega, by show E / 268435456 ≤ 1; omega, hd2, ?_, ?_, ?_⟩, ?_⟩
    · dsimp only; rw [hlen]; omega
    · dsimp only; rw [hlen]
      by_cases t1 : l.length + 1 < max a.length b.length
      · exact .inl t1
      · by_cases t2 : E / 268435456 = 1
        · exact .inr (.inl t2)
        · refine .inr (.inr (dig_last hd2 ?_))
          have ta : l.length + 1 = a.length → a.getD l.length 0 ≠ 0 := Can_top ha
          have tb : l.length + 1 = b.length → b.getD l.length 0 ≠ 0 := Can_top hb
          omega
    · dsimp only
      rw [hlen, dvI_append, Int.pow_succ, ← hv, drop_val a l.length, drop_val b l.length]
      have e : E % 268435456 = c + a.getD l.length 0 + b.getD l.length 0 - 268435456 * (E / 268435456) := by omega
      rw [e]
      simp only [dvI]
      grind
    · dsimp only; rw [hlen]; omega
  refine bcase_iff.mpr ⟨fun q1 => ?g1, fun q1 => bcase_iff.mpr ⟨fun q2 => ?g2, fun q2 => bcase_iff.mpr ⟨fun q3 => ?g3, fun q3 => ?g4⟩⟩⟩
  case g4 =>
    have q1 := of_decide_eq_false q1
    have q2 := of_decide_eq_false q2
    have q3 := of_decide_eq_false q3
    have hc : c = 0 := by omega
    subst hc
    rw [List.drop_eq_nil_of_le (by omega), List.drop_eq_nil_of_le (by omega)] at hv
    simp only [dvI, Int.add_zero, Int.mul_zero] at hv
    refine ⟨rfl, ?_, trivial⟩
    have e : dig (nv l) = l := by
      rcases hm with h | h | h
      · omega
      · omega
      · exact h
    have h1 := nv_cast ha.dgs
    have h2 := nv_cast hb.dgs
    rw [← e]
    congr 1
    unfold nv at *
    omega
  all_goals
    have hc : l.length < a.length ∨ l.length < b.length ∨ 0 < c := by
      first
      | exact .inl (by have := of_decide_eq_true q1; omega)
      | exact .inr (.inl (by have := of_decide_eq_true q2; omega))
      | exact .inr (.inr (by have := of_decide_eq_true q3; omega))
    rcases Nat.lt_or_ge l.length a.length with ka | ka
    · rw [decide_eq_true (show (l.length : Int) < a.length by omega)]
      rw [bcase_true, inB_yes (by omega) (by omega), bcase_true, Int.toNat_natCast, blt_yes ka, bcase_true]
      rcases Nat.lt_or_ge l.length b.length with kb | kb
      · rw [decide_eq_true (show (l.length : Int) < b.length by omega), bcase_true, inB_yes (by omega) (by omega), bcase_true, blt_yes kb, bcase_true, hcap, bcase_true]
        exact ⟨rfl, step _ (by rw [show IntKind.i64.wrap (c + a.getD l.length 0) = c + a.getD l.length 0 from wrap_in (by omega), wrap_in (by omega)]) hc⟩
      · rw [decide_eq_false (show ¬ (l.length : Int) < b.length by omega), bcase_false, hcap, bcase_true]
        exact ⟨rfl, step _ (by rw [wrap_in (by omega)]; simp [List.getD, kb]) hc⟩
    · rw [decide_eq_false (show ¬ (l.length : Int) < a.length by omega)]
      rw [bcase_false]
      rcases Nat.lt_or_ge l.length b.length with kb | kb
      · rw [decide_eq_true (show (l.length : Int) < b.length by omega), bcase_true, inB_yes (by omega) (by omega), bcase_true, Int.toNat_natCast, blt_yes kb, bcase_true, hcap, bcase_true]
        exact ⟨rfl, step _ (by rw [wrap_in (by omega)]; simp [List.getD, ka]) hc⟩
      · rw [decide_eq_false (show ¬ (l.length : Int) < b.length by omega), bcase_false, hcap, bcase_true]
        exact ⟨rfl, step _ (by simp [List.getD, ka, kb]) hc⟩
theorem c_less (a b : List Int) (ha : Can a) (hb : Can b) (hle : nv b ≤ nv a) : RAns Tryd.prog Φ 43 [.one (dR a), .one (dR b)] [.one (dR (dig (nv a - nv b)))] := by
  refine rfn_by hst (Sound.rcons (by kernel_rfl) (fun ads p rds h hp => by unfold sTrim at h; split at h <;> cases h; exact c_trim hst _ hp.1 hp.2) Sound.nil) (vc_less a b) ?_
  have la := ha.2
  have lb := hb.2
  have lab : b.length ≤ a.length := by
    rcases Nat.lt_or_ge a.length b.length with q | q
    · have := Can_len ha hb q; omega
    · exact q
  refine ⟨(0, []), ⟨rfl, rfl, rfl, rfl, rfl, rfl, rfl, rfl, rfl, rfl, rfl, trivial⟩, ⟨by decide, by decide, Dgs_nil, by simp, by simp [dvI]⟩, fun s h => ?_⟩
  obtain ⟨c, l⟩ := s
  obtain ⟨c0, c1, hd, hl, hv⟩ := h
  dsimp only at c0 c1 hd hl hv ⊢
  have hcap : capOk (l.length + 1) 8 = true := cap_yes (by omega)
  have da := Dgs_getD ha.dgs l.length
  have db := Dgs_getD hb.dgs l.length
  have step : ∀ D c2 : Int, D = a.getD l.length 0 - c - b.getD l.length 0 + 268435456 * c2 → 0 ≤ c2 → c2 ≤ 1 → 0 ≤ D → D < 268435456 → l.length < a.length →
    ∃ (s_1 : Int × List Int),
      (a.length = a.length ∧ b.length = b.length ∧ Value.tuple #[] = Value.tuple #[] ∧ Value.tuple #[] = Value.tuple #[] ∧ Value.slice none 0 0 = Value.slice none 0 0 ∧ l.length + 1 = s_1.snd.length ∧ l.length + 1 ≠ 0 ∧ c2 = s_1.fst ∧ IntKind.i64.wrap ((↑l.length : Int) + 1) = (↑s_1.snd.length : Int) ∧ a = a ∧ b = b ∧ l ++ [D] = s_1.snd ∧ True) ∧
      (0 ≤ s_1.fst ∧ s_1.fst ≤ 1 ∧ Dgs s_1.snd ∧ s_1.snd.length ≤ a.length ∧ dvI s_1.snd + 268435456 ^ s_1.snd.length * (dvI (List.drop s_1.snd.length a) - dvI (List.drop s_1.snd.length b) - s_1.fst) = dvI a - dvI b) ∧
      a.length - s_1.snd.length < a.length - l.length := fun D c2 hD k0 k1 k2 k3 hi => by
    have w2 : IntKind.i64.wrap ((l.length : Int) + 1) = ((l.length + 1 : Nat) : Int) := by rw [wrap_in (by omega)]; omega
    have hlen : (l ++ [D]).length = l.length + 1 := by simp
    refine ⟨(c2, l ++ [D]), ⟨rfl, rfl, rfl, rfl, rfl, by simp, by omega, rfl, by rw [hlen]; exact w2, rfl, rfl, rfl, trivial⟩, ⟨k0, k1, Dgs_append.mpr ⟨hd, Dgs_one.mpr ⟨k2, k3⟩⟩, by dsimp only; rw [hlen]; omega, ?_⟩, by dsimp only; rw [hlen]; omega⟩
    dsimp only
    rw [hlen, dvI_append, Int.pow_succ, ← hv, drop_val a l.length, drop_val b l.length, hD]
    simp only [dvI]
    grind
  refine bcase_iff.mpr ⟨fun q1 => ?_, fun q1 => ?_⟩
  · have hi : l.length < a.length := by have := of_decide_eq_true q1; omega
    have wa : IntKind.i64.wrap (a.getD l.length 0 - c) = a.getD l.length 0 - c := wrap_in (by omega)
    rw [inB_yes (by omega) (by omega), bcase_true, Int.toNat_natCast, blt_yes hi, bcase_true, wa]
    rcases Nat.lt_or_ge l.length b.length with kb | kb
    · have wb : IntKind.i64.wrap (a.getD l.length 0 - c - b.getD l.length 0) = a.getD l.length 0 - c - b.getD l.length 0 := wrap_in (by omega)
      rw [decide_eq_true (show (l.length : Int) < b.length by omega), bcase_true, inB_yes (by omega) (by omega), bcase_true, blt_yes kb, bcase_true, wb, hcap, bcase_true, bcase_true]
      refine bcase_iff.mpr ⟨fun q => ⟨rfl, ?_⟩, fun q => ⟨rfl, ?_⟩⟩
      · have q := of_decide_eq_true q
        exact step _ 1 (by rw [wrap_in (by omega)]; omega) (by decide) (by decide) (by rw [wrap_in (by omega)]; omega) (by rw [wrap_in (by omega)]; omega) hi
      · have q := of_decide_eq_false q
        exact step _ 0 (by omega) (by decide) (by decide) (by omega) (by omega) hi
    · have zb : b.getD l.length 0 = 0 := by simp [List.getD, kb]
      rw [decide_eq_false (show ¬ (l.length : Int) < b.length by omega), bcase_false, hcap, bcase_true, bcase_true]
      refine bcase_iff.mpr ⟨fun q => ⟨rfl, ?_⟩, fun q => ⟨rfl, ?_⟩⟩
      · have q := of_decide_eq_true q
        exact step _ 1 (by rw [wrap_in (by omega)]; omega) (by decide) (by decide) (by rw [wrap_in (by omega)]; omega) (by rw [wrap_in (by omega)]; omega) hi
      · have q := of_decide_eq_false q
        exact step _ 0 (by omega) (by decide) (by decide) (by omega) (by omega) hi
  · have hi : l.length = a.length := by have := of_decide_eq_false q1; omega
    rw [List.drop_eq_nil_of_le (by omega), List.drop_eq_nil_of_le (by omega)] at hv
    simp only [dvI] at hv
    have h1 := nv_cast ha.dgs
    have h2 := nv_cast hb.dgs
    have h3 := dvI_lt hd
    have h4 := dvI_nonneg hd
    have p := pow_pos' l.length
    have cz : c = 0 := by
      rcases (show c = 0 ∨ c = 1 by omega) with k | k
      · exact k
      · subst k; omega
    subst cz
    have e : nv l = nv a - nv b := by unfold nv at *; omega
    refine ⟨rfl, fun z hz => ?_⟩
    subst hz
    exact ⟨⟨hd, by omega⟩, tke (by rw [e]) trivial⟩
end Go.Proofs.YtmghbedgfnlpoaaDoor
