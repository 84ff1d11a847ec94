/- Refraction: apparent altitudes. The plain law. -/
import Derived.Test.YtidhogcijghogaaGreatDoorRfrA
namespace Go.Proofs.YtidhogcijghogaaGreatDoor
open Go Go.Abs Go.RowKit
set_option linter.unusedVariables false
set_option linter.unusedSimpArgs false
/-- The greatest altitude that is not beyond a number, the least that is not before one. -/
structure LoIs (a t p lo : Int) : Prop where
  l0 : -60001 ≤ lo
  l1 : lo ≤ 5400000
  ins : ∀ u, RU u → u ≤ lo → u - atL u t p ≤ a
  out : ∀ u, RU u → lo < u → a < u - atL u t p
structure HiIs (b t p hi : Int) : Prop where
  h0 : -60000 ≤ hi
  h1 : hi ≤ 5400001
  out : ∀ u, RU u → u < hi → u - atH u t p < b
  ins : ∀ u, RU u → hi ≤ u → b ≤ u - atH u t p
theorem lo_one {a t p x y : Int} (h : LoIs a t p x) (k : LoIs a t p y) : x = y := by
  have a1 := h.l0; have a2 := h.l1; have a3 := k.l0; have a4 := k.l1
  rcases Int.lt_trichotomy x y with q | q | q
  · have := h.out y ⟨by omega, by omega⟩ q
    have := k.ins y ⟨by omega, by omega⟩ (Int.le_refl _)
    omega
  · exact q
  · have := k.out x ⟨by omega, by omega⟩ q
    have := h.ins x ⟨by omega, by omega⟩ (Int.le_refl _)
    omega
theorem hi_one {b t p x y : Int} (h : HiIs b t p x) (k : HiIs b t p y) : x = y := by
  have a1 := h.h0; have a2 := h.h1; have a3 := k.h0; have a4 := k.h1
  rcases Int.lt_trichotomy x y with q | q | q
  · have := k.out x ⟨by omega, by omega⟩ q
    have := h.ins x ⟨by omega, by omega⟩ (Int.le_refl _)
    omega
  · exact q
  · have := h.out y ⟨by omega, by omega⟩ q
    have := k.ins y ⟨by omega, by omega⟩ (Int.le_refl _)
    omega
/-- Where a property begins that does not end. -/
theorem thr (Q : Int → Prop) : ∀ n : Nat, (∀ k l : Int, 0 ≤ k → k ≤ l → l < n → Q k → Q l) → ∃ i : Int, 0 ≤ i ∧ i ≤ n ∧ (∀ k, 0 ≤ k → k < i → ¬ Q k) ∧ (∀ k, i ≤ k → k < n → Q k)
  | 0, _ => ⟨0, by omega, by omega, fun k _ _ => by omega, fun k _ _ => by omega⟩
  | n + 1, h => by
    obtain ⟨i, i0, i1, i2, i3⟩ := thr Q n (fun k l a b c => h k l a b (by omega))
    by_cases q : Q n
    · refine ⟨i, i0, by omega, i2, fun k k0 k1 => ?_⟩
      by_cases e : k = n
      · rw [e]; exact q
      · exact i3 k k0 (by omega)
    · refine ⟨n + 1, by omega, by omega, fun k k0 k1 qk => ?_, fun k k0 k1 => by omega⟩
      exact q (h k n k0 (by omega) (by omega) qk)
/-- Altitudes less their refraction grow. -/
theorem less_mono {u v t p : Int} (hu : RU u) (hv : RU v) (h : u ≤ v) (hw : Wth t p) : v - u ≤ (v - atL v t p) - (u - atL u t p) ∧ v - u ≤ (v - atH v t p) - (u - atH u t p) := by
  obtain ⟨a, b⟩ := at_mono hu hv h hw
  omega
/-- What the two searches look for. -/
structure Pr1 (a t p k : Int) : Prop where
  is : a < k - 60000 - atL (k - 60000) t p
structure Pr2 (b t p k : Int) : Prop where
  is : b ≤ k - 60000 - atH (k - 60000) t p
theorem lo_is {a t p i : Int} (h0 : 0 ≤ i) (h1 : i ≤ 5460001) (h2 : ∀ k, 0 ≤ k → k < i → ¬ Pr1 a t p k) (h3 : ∀ k, i ≤ k → k < 5460001 → Pr1 a t p k) : LoIs a t p (-60000 + i - 1) := by
  refine ⟨by omega, by omega, fun u hu q => ?_, fun u hu q => ?_⟩
  · have := h2 (u + 60000) (by have := hu.1; omega) (by omega)
    have e : u + 60000 - 60000 = u := by omega
    refine Int.not_lt.mp fun k => this ⟨?_⟩
    rw [e]; exact k
  · have := (h3 (u + 60000) (by omega) (by have := hu.2; omega)).is
    have e : u + 60000 - 60000 = u := by omega
    rw [e] at this
    exact this
theorem hi_is {b t p i : Int} (h0 : 0 ≤ i) (h1 : i ≤ 5460001) (h2 : ∀ k, 0 ≤ k → k < i → ¬ Pr2 b t p k) (h3 : ∀ k, i ≤ k → k < 5460001 → Pr2 b t p k) : HiIs b t p (-60000 + i) := by
  refine ⟨by omega, by omega, fun u hu q => ?_, fun u hu q => ?_⟩
  · have := h2 (u + 60000) (by have := hu.1; omega) (by omega)
    have e : u + 60000 - 60000 = u := by omega
    refine Int.not_le.mp fun k => this ⟨?_⟩
    rw [e]; exact k
  · have := (h3 (u + 60000) (by omega) (by have := hu.2; omega)).is
    have e : u + 60000 - 60000 = u := by omega
    rw [e] at this
    exact this
theorem pr1_mono {a t p : Int} (hw : Wth t p) (k l : Int) (h0 : 0 ≤ k) (h : k ≤ l) (h1 : l < 5460001) (q : Pr1 a t p k) : Pr1 a t p l := by
  have m := (less_mono (u := k - 60000) (v := l - 60000) ⟨by omega, by omega⟩ ⟨by omega, by omega⟩ (by omega) hw).1
  have := q.is
  exact ⟨by omega⟩
theorem pr2_mono {b t p : Int} (hw : Wth t p) (k l : Int) (h0 : 0 ≤ k) (h : k ≤ l) (h1 : l < 5460001) (q : Pr2 b t p k) : Pr2 b t p l := by
  have m := (less_mono (u := k - 60000) (v := l - 60000) ⟨by omega, by omega⟩ ⟨by omega, by omega⟩ (by omega) hw).2
  have := q.is
  exact ⟨by omega⟩
theorem lo_some (a : Int) {t p : Int} (hw : Wth t p) : ∃ lo, LoIs a t p lo := by
  obtain ⟨i, h0, h1, h2, h3⟩ := thr (Pr1 a t p) 5460001 (fun k l x y z q => pr1_mono hw k l x y z q)
  exact ⟨_, lo_is h0 h1 h2 h3⟩
theorem hi_some (b : Int) {t p : Int} (hw : Wth t p) : ∃ hi, HiIs b t p hi := by
  obtain ⟨i, h0, h1, h2, h3⟩ := thr (Pr2 b t p) 5460001 (fun k l x y z q => pr2_mono hw k l x y z q)
  exact ⟨_, hi_is h0 h1 h2 h3⟩
/-- Both ends are apparent altitudes. -/
def Inn (lo hi : Int) : Prop := -60000 ≤ lo ∧ hi ≤ 5400000
instance (lo hi : Int) : Decidable (Inn lo hi) := by unfold Inn; infer_instance
/-- Apparent altitudes, less their refraction, contain the altitudes from which they were found. -/
theorem back1 {a b t p lo hi : Int} (hab : a ≤ b) (hw : Wth t p) (l : LoIs a t p lo) (h : HiIs b t p hi) (n : Inn lo hi) : RU lo ∧ RU hi ∧ lo ≤ hi ∧ lo - atH lo t p ≤ a ∧ b ≤ hi - atL hi t p := by
  have hl : RU lo := ⟨n.1, l.l1⟩
  have hh : RU hi := ⟨h.h0, n.2⟩
  have q1 := l.ins lo hl (Int.le_refl _)
  have q2 := h.ins hi hh (Int.le_refl _)
  have w1 := (at_wide hl hw).1
  have w2 := (at_wide hh hw).1
  have le : lo ≤ hi := by
    apply Int.not_lt.mp
    intro k
    have := (less_mono hh hl (by omega) hw).1
    omega
  exact ⟨hl, hh, le, by omega, by omega⟩
/-- What is found from an apparent altitude less its refraction contains it. -/
theorem back2 {u t p lo hi : Int} (hu : RU u) (hw : Wth t p) (l : LoIs (u - atH u t p) t p lo) (h : HiIs (u - atL u t p) t p hi) (n : Inn lo hi) : lo ≤ u ∧ u ≤ hi ∧ hi - lo < 100 := by
  have hl : RU lo := ⟨n.1, l.l1⟩
  have hh : RU hi := ⟨h.h0, n.2⟩
  have q1 := l.ins lo hl (Int.le_refl _)
  have q2 := h.ins hi hh (Int.le_refl _)
  obtain ⟨w0, w1, _⟩ := at_wide hu hw
  have u0 := hu.1
  have u1 := hu.2
  have a1 : lo ≤ u := by
    apply Int.not_lt.mp
    intro k
    have := (less_mono hu hl (by omega) hw).1
    omega
  have a2 : u ≤ hi := by
    apply Int.not_lt.mp
    intro k
    have := (less_mono hh hu (by omega) hw).2
    omega
  have a3 : u - 19 ≤ lo := by
    apply Int.not_lt.mp
    intro k
    have n1 := n.1
    have hv : RU (u - 19) := ⟨by omega, by omega⟩
    have := l.out (u - 19) hv k
    have := (at_mono hv hu (by omega) hw).1
    omega
  have a4 : hi ≤ u + 19 := by
    apply Int.not_lt.mp
    intro k
    have n1 := n.2
    have hv : RU (u + 19) := ⟨by omega, by omega⟩
    have := h.out (u + 19) hv k
    have := (at_mono hu hv (by omega) hw).2
    omega
  omega
/-! The weather. -/
theorem weather_law {u t p t2 p2 : Int} (hu : RU u) (h89 : u ≤ 5340000) (hw : Wth t p) (hw1 : Wth t2 p) (hw2 : Wth t p2) (ht : t ≤ t2) (hp : p ≤ p2) : atL u t2 p ≤ atL u t p ∧ atH u t2 p ≤ atH u t p ∧ atL u t p ≤ atL u t p2 ∧ atH u t p ≤ atH u t p2 := by
  obtain ⟨r1, r2, r3, r4, r5, r6, r7, r8⟩ := b_range hu
  have hb : bH u ≤ 5400000 := by
    have m := (b_mono hu (v := 5340000) ⟨by omega, by omega⟩ h89).2
    have e : bH 5340000 = 5344696 := by decide
    omega
  obtain ⟨n1, n2⟩ := (one_sign hu).1 hb
  obtain ⟨a, b, c, d⟩ := fac_range hw
  obtain ⟨a', b', c', d'⟩ := fac_range hw1
  obtain ⟨a2, b2, c2, d2⟩ := fac_range hw2
  have e1 : denF t ≤ denF t2 := by unfold denF; omega
  have e2 : numF p ≤ numF p2 := by unfold numF; omega
  have m1 := Int.mul_nonneg n1 (show 0 ≤ numF p by omega)
  have m2 := Int.mul_nonneg n2 (show 0 ≤ numF p by omega)
  have m3 := Int.mul_le_mul_of_nonneg_left e2 n1
  have m4 := Int.mul_le_mul_of_nonneg_left e2 n2
  have k1 := ediv_den m1 (show 0 < denF t by omega) e1
  have k2 := ediv_den' (x := -(oneH u * numF p)) (by omega) (show 0 < denF t by omega) e1
  have k3 := Int.ediv_le_ediv (show 0 < denF t by omega) m3
  have k4 := Int.ediv_le_ediv (show 0 < denF t by omega) (Int.neg_le_neg m4)
  unfold atL atH
  omega
end Go.Proofs.YtidhogcijghogaaGreatDoor
