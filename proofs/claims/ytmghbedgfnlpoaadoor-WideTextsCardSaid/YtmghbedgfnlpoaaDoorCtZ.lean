/- The reference's products of digits. -/
import Derived.Test.YtmghbedgfnlpoaaDoorCtY
namespace Go.Proofs.YtmghbedgfnlpoaaDoor
open Go Go.Abs Go.RowKit
set_option linter.unusedVariables false
set_option linter.unusedSimpArgs false
theorem dvI_set : ∀ {z : List Int} {j : Nat} (d : Int), j < z.length → dvI (z.set j d) = dvI z + 268435456 ^ j * (d - z.getD j 0)
  | x :: z, 0, d, _ => by simp only [List.set, dvI, List.getD_cons_zero, Int.pow_zero]; omega
  | x :: z, j + 1, d, h => by
    have ih := dvI_set (z := z) (j := j) d (by simpa using h)
    simp only [List.set, dvI, List.getD_cons_succ, Int.pow_succ, ih]
    grind
theorem Dgs_set {z : List Int} {j : Nat} {d : Int} (h : Dgs z) (h0 : 0 ≤ d) (h1 : d < 268435456) : Dgs (z.set j d) := fun x hx => by
  rcases List.mem_or_eq_of_mem_set hx with q | q
  · exact h x q
  · subst q; exact ⟨h0, h1⟩
theorem drop_set {z : List Int} {j n : Nat} {d : Int} (h : j < n) : (z.set j d).drop n = z.drop n := by
  rw [List.drop_set, if_pos h]
theorem mul_bound {x y : Int} (hx : 0 ≤ x ∧ x < 268435456) (hy : 0 ≤ y ∧ y < 268435456) : 0 ≤ x * y ∧ x * y ≤ 72057593501057025 := by
  refine ⟨Int.mul_nonneg hx.1 hy.1, ?_⟩
  have := Int.mul_le_mul (show x ≤ 268435455 by omega) (show y ≤ 268435455 by omega) hy.1 (by decide)
  omega
variable {Φ : World → Prop} (hst : ∀ w w', Φ w → Below w.heap.size w w' → Φ w')
include hst
theorem c_times (a b : List Int) (ha : Can a) (hb : Can b) : RAns Tryd.prog Φ 42 [.one (dR a), .one (dR b)] [.one (dR (dig (nv a * nv b)))] := by
  refine rfn_by hst (Sound.rcons (by kernel_rfl) (fun ads p rds h hp => by unfold sTrim at h; split at h <;> cases h; exact c_trim hst _ hp.1 hp.2) Sound.nil) (vc_times a b) ?_
  have la := ha.2
  have lb := hb.2
  have hw : IntKind.i64.wrap ((a.length : Int) + (b.length : Int)) = ((a.length + b.length : Nat) : Int) := by rw [wrap_in (by omega)]; omega
  rw [hw, Int.toNat_natCast, decide_eq_true (show (0 : Int) ≤ ((a.length + b.length : Nat) : Int) by omega), decide_eq_true (Int.le_refl _), cap_yes (by omega), Bool.and_self, Bool.and_self, bcase_true]
  refine ⟨(0, List.replicate (a.length + b.length) 0), ⟨rfl, rfl, rfl, rfl, rfl, rfl, rfl, rfl, rfl, rfl, trivial⟩, ⟨Nat.zero_le _, ?_, by simp, ?_, ?_⟩, fun s h => ?_⟩
  · intro x hx; have := List.eq_of_mem_replicate hx; subst this; decide
  · have z : ∀ n, dvI (List.replicate n 0) = 0 := fun n => by
      induction n with
      | zero => rfl
      | succ n ih => rw [List.replicate_succ, dvI, ih]; rfl
    show dvI (List.replicate _ 0) + _ = _
    rw [z]; simp
  · have z : ∀ n, dvI (List.replicate n 0) = 0 := fun n => by
      induction n with
      | zero => rfl
      | succ n ih => rw [List.replicate_succ, dvI, ih]; rfl
    show dvI (List.drop _ (List.replicate _ 0)) = 0
    rw [List.drop_replicate, z]
  obtain ⟨i, z⟩ := s
  obtain ⟨i0, hd, hl, hv, ht⟩ := h
  dsimp only at i0 hd hl hv ht ⊢
  refine bcase_iff.mpr ⟨fun q1 => ?_, fun q1 => ?_⟩
  · have hi : i < a.length := by have := of_decide_eq_true q1; omega
    have da := Dgs_getD ha.dgs i
    rw [Int.toNat_natCast]
    refine ⟨(0, 0, z), ⟨rfl, rfl, rfl, rfl, rfl, rfl, rfl, rfl, rfl, rfl, rfl, rfl, trivial⟩, ⟨Nat.zero_le _, Int.le_refl 0, by show (0 : Int) < 268435456; decide, hd, hl, ?_, ht⟩, fun s2 h2 => ?_⟩
    · show dvI z + 268435456 ^ (i + 0) * (0 + a.getD i 0 * dvI (b.drop 0)) + 268435456 ^ (i + 1) * (dvI (a.drop (i + 1)) * dvI b) = dvI a * dvI b
      rw [← hv, drop_val a i, Int.pow_succ, Nat.add_zero, List.drop_zero]
      grind
    obtain ⟨k, c, y⟩ := s2
    obtain ⟨k0, c0, c1, yd, yl, yv, yt⟩ := h2
    dsimp only at k0 c0 c1 yd yl yv yt ⊢
    refine bcase_iff.mpr ⟨fun q2 => ?_, fun q2 => ?_⟩
    · have hk : k < b.length := by have := of_decide_eq_true q2; omega
      have db := Dgs_getD hb.dgs k
      have dy := Dgs_getD yd (i + k)
      have mb := mul_bound da db
      have w1 : IntKind.i64.wrap ((i : Int) + (k : Int)) = ((i + k : Nat) : Int) := by rw [wrap_in (by omega)]; omega
      have w2 : IntKind.i64.wrap (a.getD i 0 * b.getD k 0) = a.getD i 0 * b.getD k 0 := wrap_in (by omega)
      have w3 : IntKind.i64.wrap (y.getD (i + k) 0 + a.getD i 0 * b.getD k 0) = y.getD (i + k) 0 + a.getD i 0 * b.getD k 0 := wrap_in (by omega)
      have w4 : IntKind.i64.wrap (y.getD (i + k) 0 + a.getD i 0 * b.getD k 0 + c) = y.getD (i + k) 0 + a.getD i 0 * b.getD k 0 + c := wrap_in (by omega)
      rw [w1, inB_yes (by omega) (by omega), bcase_true, Int.toNat_natCast, Int.toNat_natCast, blt_yes (by omega), bcase_true, inB_yes (by omega) (by omega), bcase_true, blt_yes hi, bcase_true, inB_yes (by omega) (by omega), bcase_true, blt_yes hk, bcase_true, bcase_true, bcase_true, w2, w3, w4]
      have pe : ∀ E : Int, E = y.getD (i + k) 0 + a.getD i 0 * b.getD k 0 + c → E.tdiv 268435456 = E / 268435456 ∧ E.tmod 268435456 = E % 268435456 ∧ IntKind.i64.wrap (E / 268435456) = E / 268435456 ∧ 0 ≤ E / 268435456 ∧ E / 268435456 < 268435456 := fun E hE =>
        ⟨Int.tdiv_eq_ediv_of_nonneg (by omega), Int.tmod_eq_emod_of_nonneg (by omega), wrap_in (by omega), by omega, by omega⟩
      obtain ⟨e1, e2, e3, e4, e5⟩ := pe _ rfl
      rw [e1, e2, e3]
      generalize hE : y.getD (i + k) 0 + a.getD i 0 * b.getD k 0 + c = E at *
      refine ⟨(k + 1, E / 268435456, y.set (i + k) (E % 268435456)), ⟨rfl, rfl, rfl, rfl, rfl, rfl, rfl, rfl, by show IntKind.i64.wrap ((k : Int) + 1) = ((k + 1 : Nat) : Int); rw [wrap_in (by omega)]; omega, rfl, rfl, rfl, trivial⟩, ⟨by show k + 1 ≤ b.length; omega, e4, e5, Dgs_set yd (by omega) (by omega), by show (y.set _ _).length = _; rw [List.length_set]; exact yl, ?_, ?_⟩, by show b.length - (k + 1) < b.length - k; omega⟩
      · show dvI (y.set (i + k) (E % 268435456)) + 268435456 ^ (i + (k + 1)) * (E / 268435456 + a.getD i 0 * dvI (b.drop (k + 1))) + 268435456 ^ (i + 1) * (dvI (a.drop (i + 1)) * dvI b) = dvI a * dvI b
        rw [dvI_set _ (by omega), ← yv, drop_val b k, ← Nat.add_assoc, Int.pow_succ]
        have e : E % 268435456 = y.getD (i + k) 0 + a.getD i 0 * b.getD k 0 + c - 268435456 * (E / 268435456) := by omega
        rw [e]
        grind
      · show dvI ((y.set (i + k) (E % 268435456)).drop (i + b.length)) = 0
        rw [drop_set (by omega)]; exact yt
    · have hk : k = b.length := by have := of_decide_eq_false q2; omega
      subst hk
      have w1 : IntKind.i64.wrap ((i : Int) + (b.length : Int)) = ((i + b.length : Nat) : Int) := by rw [wrap_in (by omega)]; omega
      rw [w1, inB_yes (by omega) (by omega), bcase_true, Int.toNat_natCast, blt_yes (by omega), bcase_true]
      have dv := drop_val y (i + b.length)
      have n1 := Dgs_getD yd (i + b.length)
      have n2 := dvI_nonneg (Dgs_drop yd (i + b.length + 1))
      refine ⟨(i + 1, y.set (i + b.length) c), ⟨rfl, rfl, rfl, rfl, rfl, rfl, by show IntKind.i64.wrap ((i : Int) + 1) = ((i + 1 : Nat) : Int); rw [wrap_in (by omega)]; omega, rfl, rfl, rfl, trivial⟩, ⟨by show i + 1 ≤ a.length; omega, Dgs_set yd c0 c1, by show (y.set _ _).length = _; rw [List.length_set]; exact yl, ?_, ?_⟩, by show a.length - (i + 1) < a.length - i; omega⟩
      · show dvI (y.set (i + b.length) c) + 268435456 ^ (i + 1) * (dvI (a.drop (i + 1)) * dvI b) = dvI a * dvI b
        rw [dvI_set _ (by omega), ← yv, List.drop_eq_nil_of_le (Nat.le_refl b.length), show y.getD (i + b.length) 0 = 0 by omega]
        simp only [dvI, Int.mul_zero, Int.add_zero, Int.sub_zero]
      · show dvI ((y.set (i + b.length) c).drop (i + 1 + b.length)) = 0
        rw [drop_set (by omega), show i + 1 + b.length = i + b.length + 1 by omega]
        omega
  · have hi : i = a.length := by have := of_decide_eq_false q1; omega
    subst hi
    rw [List.drop_eq_nil_of_le (Nat.le_refl a.length)] at hv
    simp only [dvI, Int.zero_mul, Int.mul_zero, Int.add_zero] at hv
    have e : nv z = nv a * nv b := by
      have h1 := nv_cast ha.dgs
      have h2 := nv_cast hb.dgs
      have h3 := nv_cast hd
      rw [← h1, ← h2, ← h3] at hv
      exact_mod_cast hv
    refine ⟨hl.symm, fun y hy => ?_⟩
    subst hy
    exact ⟨⟨hd, by omega⟩, tke (by rw [e]) trivial⟩
end Go.Proofs.YtmghbedgfnlpoaaDoor
