/- The reference's division of digits. -/
import Derived.Test.YtmghbedgfnlpoaaDoorCtZ
import Derived.Test.YtmghbedgfnlpoaaDoorVcX2
namespace Go.Proofs.YtmghbedgfnlpoaaDoor
open Go Go.Abs Go.RowKit
set_option linter.unusedVariables false
set_option linter.unusedSimpArgs false
theorem nv_one {m : Int} (h : 0 ≤ m) : nv [m] = m.toNat := by unfold nv; simp [dvI]
theorem Can_one {m : Int} (h : 0 < m) (h1 : m < 268435456) : Can [m] := by
  have := dig_last (l := []) (x := m) (Dgs_one.mpr ⟨by omega, h1⟩) (by omega)
  exact ⟨this.symm, by simp⟩
variable {Φ : World → Prop} (hst : ∀ w w', Φ w → Below w.heap.size w w' → Φ w')
include hst
theorem s_Do : Sound Tryd.prog Φ ΓDo :=
  Sound.rcons (by kernel_rfl) (fun ads p rds h hp => by unfold sTrim at h; split at h <;> cases h; exact c_trim hst _ hp.1 hp.2)
  (Sound.rcons (by kernel_rfl) (fun ads p rds h hp => by unfold sOrder at h; split at h <;> cases h; exact c_order hst _ _ hp.1 hp.2)
  (Sound.rcons (by kernel_rfl) (fun ads p rds h hp => by unfold sTimes at h; split at h <;> cases h; exact c_times hst _ _ hp.1 hp.2)
  (Sound.rcons (by kernel_rfl) (fun ads p rds h hp => by unfold sLess at h; split at h <;> cases h; exact c_less hst _ _ hp.1 hp.2.1 hp.2.2) Sound.nil)))
theorem c_over (a b : List Int) (ha : Can a) (hb : Can b) (hl : b.length ≤ 40) (hb0 : nv b ≠ 0) : RAns Tryd.prog Φ 20 [.one (dR a), .one (dR b)] [.one (dR (dig (nv a / nv b))), .one (dR (dig (nv a % nv b)))] := by
  refine rfn_by hst (s_Do hst) (vc_over a b) ?_
  have la := ha.2
  have bv := nv_cast hb.dgs
  rw [decide_eq_true (show (0 : Int) ≤ (a.length : Int) by omega), decide_eq_true (Int.le_refl _), Int.toNat_natCast, cap_yes (by omega), Bool.and_self, Bool.and_self, bcase_true]
  refine ⟨(a.length, 0, List.replicate a.length 0), ⟨rfl, rfl, rfl, rfl, rfl, rfl, rfl, rfl, wrap_in (by omega), rfl, rfl, rfl, rfl, trivial⟩, ⟨Nat.le_refl _, Nat.pos_of_ne_zero hb0, ?_, by simp, ?_⟩, fun s h => ?_⟩
  · intro x hx; have := List.eq_of_mem_replicate hx; subst this; decide
  · show dvI (List.drop a.length a) = dvI (List.drop a.length (List.replicate a.length 0)) * dvI b + ((0 : Nat) : Int)
    rw [List.drop_length, List.drop_eq_nil_of_le (by simp)]; simp [dvI]
  obtain ⟨i, r, z⟩ := s
  obtain ⟨i0, hr, hd, hz, hv⟩ := h
  dsimp only at i0 hr hd hz hv ⊢
  refine bcase_iff.mpr ⟨fun q1 => ?_, fun q1 => ?_⟩
  · cases i with
    | zero => have := of_decide_eq_true q1; omega
    | succ i =>
      have da := Dgs_getD ha.dgs i
      rw [show (((i + 1 : Nat) : Int) - 1) = i by omega, inB_yes (by omega) (by omega), bcase_true, Int.toNat_natCast, blt_yes (by omega), bcase_true]
      simp only [forall_eq, List.take_length, Nat.zero_add, Nat.le_refl, true_and, and_true]
      have nbB : nv b < 268435456 ^ 40 := by
        have h := dig_short (v := nv b)
        rw [← hb.1] at h
        exact Nat.lt_of_lt_of_le h (Nat.pow_le_pow_right (by decide) hl)
      have rl : (dig r).length ≤ 40 := dig_length 40 (by omega)
      have rdg : Dgs (a.getD i 0 :: dig r) := Dgs_cons.mpr ⟨da, Dgs_dig r⟩
      have hR : nv (a.getD i 0 :: dig r) = (a.getD i 0).toNat + 268435456 * r := by
        show (a.getD i 0 + 268435456 * dvI (dig r)).toNat = _
        rw [dvI_dig]; omega
      have big : ∀ n, n < 268435456 * nv b → Can (dig n) := fun n h => Can_dig (by omega)
      rw [cap_yes (by simp only [List.length_cons, List.length_nil]; omega), bcase_true]
      simp only [nv_dig, dvI_dig, hR, ← bv]
      have Rlt : (a.getD i 0).toNat + 268435456 * r < 268435456 * nv b := by omega
      generalize hRR : (a.getD i 0).toNat + 268435456 * r = R at *
      refine ⟨by simp only [List.length_cons, List.length_nil]; omega, ⟨rdg, by simp only [List.length_cons]; omega⟩, (0, 268435455), ⟨rfl, rfl⟩, ⟨Int.le_refl 0, by show (0 : Int) ≤ 268435455; decide, by show (268435455 : Int) < 268435456; decide, by show (0 : Int) * _ ≤ _; omega, by show _ < ((268435455 : Int) + 1) * _; omega⟩, fun s2 h2 => ?_⟩
      obtain ⟨lo, hi⟩ := s2
      obtain ⟨l0, l1, l2, l3, l4⟩ := h2
      dsimp only at l0 l1 l2 l3 l4 ⊢
      refine bcase_iff.mpr ⟨fun q2 => ?_, fun q2 => ?_⟩
      · have q2 : lo < hi := of_decide_eq_true q2
        have w1 : IntKind.i64.wrap (lo + hi) = lo + hi := wrap_in (by omega)
        have w2 : IntKind.i64.wrap (lo + hi + 1) = lo + hi + 1 := wrap_in (by omega)
        have w3 : (lo + hi + 1).tdiv 2 = (lo + hi + 1) / 2 := Int.tdiv_eq_ediv_of_nonneg (by omega)
        have w4 : IntKind.i64.wrap ((lo + hi + 1) / 2) = (lo + hi + 1) / 2 := wrap_in (by omega)
        rw [w1, w2, w3, w4]
        have m1 : lo < (lo + hi + 1) / 2 := by omega
        have m2 : (lo + hi + 1) / 2 ≤ hi := by omega
        generalize (lo + hi + 1) / 2 = m at *
        rw [nv_one (show 0 ≤ m by omega)]
        have w5 : IntKind.i64.wrap (m - 1) = m - 1 := wrap_in (by omega)
        have pm : nv b * m.toNat < 268435456 * nv b := by
          rw [Nat.mul_comm]; exact Nat.mul_lt_mul_of_pos_right (by omega) (Nat.pos_of_ne_zero hb0)
        have ce : ((nv b * m.toNat : Nat) : Int) = m * (nv b : Int) := by
          rw [Int.natCast_mul, Int.toNat_of_nonneg (show 0 ≤ m by omega), Int.mul_comm]
        refine ⟨⟨hb, Can_one (by omega) (by omega)⟩, ⟨big _ pm, big _ Rlt⟩, bcase_iff.mpr ⟨fun q => ?_, fun q => ?_⟩⟩
        · have q := of_decide_eq_true q
          have le : m * (nv b : Int) ≤ (R : Int) := by
            rw [ce] at q; unfold ordI at q; split at q
            · omega
            · split at q <;> omega
          exact ⟨(m, hi), ⟨rfl, rfl⟩, ⟨by show 0 ≤ m; omega, m2, l2, le, l4⟩, by show (hi - m).toNat < (hi - lo).toNat; omega⟩
        · have q := of_decide_eq_false q
          have le : (R : Int) < m * (nv b : Int) := by
            rw [ce] at q; unfold ordI at q; split at q
            · omega
            · split at q <;> omega
          exact ⟨(lo, m - 1), ⟨rfl, w5⟩, ⟨l0, by show lo ≤ m - 1; omega, by show m - 1 < 268435456; omega, l3, by show (R : Int) < (m - 1 + 1) * _; rw [Int.sub_add_cancel]; exact le⟩, by show (m - 1 - lo).toNat < (hi - lo).toNat; omega⟩
      · have q2 : lo = hi := by have := of_decide_eq_false q2; omega
        subst q2
        rw [bcase_true, blt_yes (by omega), bcase_true, nv_one l0]
        have ce : ((nv b * lo.toNat : Nat) : Int) = lo * (nv b : Int) := by
          rw [Int.natCast_mul, Int.toNat_of_nonneg l0, Int.mul_comm]
        have le : nv b * lo.toNat ≤ R := by omega
        have lt : R - nv b * lo.toNat < nv b := by
          rw [Int.add_mul, Int.one_mul] at l4
          omega
        have sg : (z.set i lo).getD i 0 = lo := by simp [List.getD, show i < z.length by omega]
        refine ⟨⟨Dgs_one.mpr ⟨l0, l2⟩, by simp⟩, ⟨hb, Can_dig (by omega)⟩, ⟨big _ Rlt, big _ (by omega), le⟩, (i, R - nv b * lo.toNat, z.set i lo), ⟨rfl, wrap_in (by omega), rfl, rfl⟩, ⟨by show i ≤ a.length; omega, lt, Dgs_set hd l0 l2, by show (z.set i lo).length = _; rw [List.length_set]; exact hz, ?_⟩, by show i < i + 1; omega⟩
        show dvI (a.drop i) = dvI ((z.set i lo).drop i) * (nv b : Int) + ((R - nv b * lo.toNat : Nat) : Int)
        rw [drop_val a i, drop_val (z.set i lo) i, sg, drop_set (by omega), hv, ← bv, Int.ofNat_sub le, ce, ← hRR, Int.natCast_add, Int.natCast_mul, Int.toNat_of_nonneg da.1]
        simp only [Int.cast_ofNat_Int]
        grind
  · have hi : i = 0 := by have := of_decide_eq_false q1; omega
    subst hi
    have av := nv_cast ha.dgs
    have zv := nv_cast hd
    simp only [List.drop_zero] at hv
    rw [← av, ← zv, ← bv] at hv
    have hv : nv a = nv z * nv b + r := by exact_mod_cast hv
    have e1 : nv a / nv b = nv z := by rw [hv, Nat.mul_comm, Nat.mul_add_div (Nat.pos_of_ne_zero hb0), Nat.div_eq_of_lt hr]; rfl
    have e2 : nv a % nv b = r := by rw [hv, Nat.mul_comm, Nat.mul_add_mod, Nat.mod_eq_of_lt hr]
    exact ⟨hz.symm, fun y hy => by subst hy; exact ⟨⟨hd, by omega⟩, tke (by rw [e1]) (tke (by rw [e2]) trivial)⟩⟩
end Go.Proofs.YtmghbedgfnlpoaaDoor
