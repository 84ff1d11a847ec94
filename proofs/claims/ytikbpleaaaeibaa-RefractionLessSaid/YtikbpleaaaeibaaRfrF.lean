/- Refraction: the laws of parts, and of the weather. -/
import Derived.Test.YtikbpleaaaeibaaRfrE
import Derived.Test.YtikbpleaaaeibaaRfrLL
import Derived.Test.YtikbpleaaaeibaaRfrLW
namespace Go.Proofs.Ytikbpleaaaeibaa
open Go Go.Abs Go.RowKit
set_option linter.unusedVariables false
set_option linter.unusedSimpArgs false
theorem s_Ll : Sound Try.prog Any ΓLl :=
  Sound.cons (by kernel_rfl) (fun args p v h _ => by unfold sYes20 at h; split at h <;> cases h; exact c_awake20)
  (Sound.cons (by kernel_rfl) (fun args p v h _ => by unfold sAt at h; split at h <;> cases h; exact c_rfAt st_any _ _ _ _) Sound.nil)
theorem s_Lw : Sound Try.prog Any ΓLw :=
  Sound.cons (by kernel_rfl) (fun args p v h _ => by unfold sYes20 at h; split at h <;> cases h; exact c_awake20)
  (Sound.cons (by kernel_rfl) (fun args p v h _ => by unfold sAt at h; split at h <;> cases h; exact c_rfAt st_any _ _ _ _)
  (Sound.cons (by kernel_rfl) (fun args p v h _ => by unfold sFactor at h; split at h <;> cases h; exact c_rffactor st_any _ _) Sound.nil))
theorem law_less (a b i k t p : Int) (hi : 0 ≤ i ∧ i ≤ 4294967295) (hk : 0 ≤ k ∧ k ≤ 4294967295) : Ans Try.prog Any 3 [wid a b, .int .u32 i, .int .u32 k, num t, num p] (.bool true) := by
  refine fn_by st_any s_Ll (vc_lawless a b i k t p _) ⟨trivial, trivial, bcase_iff.mpr ⟨fun q => ?_, fun q => ?_⟩⟩
  · have n := at_ne q
    rw [gate_f n, gate_f n]
    rfl
  have ok := at_eq q
  have okt := ok
  obtain ⟨⟨v, r⟩, w⟩ := ok
  unfold ArcV at v
  unfold InA at r
  have D1 : 1 ≤ b - a + 1 := by omega
  rw [decide_eq_false (p := a > b) (by omega), bcase_false, wrap_in (n := b - a) (by omega), wrap_in (n := b - a + 1) (by omega), show (b - a + 1 == 0) = false from beq_eq_false_iff_ne.mpr (by omega), bcase_false, bcase_false, wrap_in (n := i) (by omega), wrap_in (n := k) (by omega), Int.tmod_eq_emod_of_nonneg (a := i) hi.1, Int.tmod_eq_emod_of_nonneg (a := k) hk.1]
  have m1 := Int.emod_nonneg i (show b - a + 1 ≠ 0 by omega)
  have m2 := Int.emod_lt_of_pos i (show 0 < b - a + 1 by omega)
  have m3 := Int.emod_nonneg k (show b - a + 1 ≠ 0 by omega)
  have m4 := Int.emod_lt_of_pos k (show 0 < b - a + 1 by omega)
  generalize i % (b - a + 1) = x at *
  generalize k % (b - a + 1) = y at *
  rw [wrap_in (n := a + x) (by omega), wrap_in (n := a + y) (by omega)]
  have hU : a ≤ (if a + y < a + x then a + y else a + x) ∧ (if a + y < a + x then a + y else a + x) ≤ (if a + y > a + x then a + y else a + x) ∧ (if a + y > a + x then a + y else a + x) ≤ b := by
    split <;> split <;> omega
  generalize (if a + y < a + x then a + y else a + x) = U at *
  generalize (if a + y > a + x then a + y else a + x) = V at *
  obtain ⟨u0, uv, v1⟩ := hU
  have ra : RU a := ⟨by omega, by omega⟩
  have rb : RU b := ⟨by omega, by omega⟩
  have ru : RU U := ⟨by omega, by omega⟩
  have rv : RU V := ⟨by omega, by omega⟩
  have o1 : okT U V t p := ⟨⟨⟨by omega, uv, by omega⟩, by omega, by omega⟩, w⟩
  have o2 := point_ok ru w
  have o3 := point_ok rv w
  have a1 := at_mono ra ru u0 w
  have a2 := at_mono ru rv uv w
  have a3 := at_mono rv rb v1 w
  have a4 := at_wide ru w
  have a5 := at_wide rv w
  rw [(at_zero _ _ _ _).mpr o1, (at_zero _ _ _ _).mpr o2, (at_zero _ _ _ _).mpr o3, gate_t okt, gate_t okt, gate_t o1, gate_t o1, gate_t o2, gate_t o2, gate_t o3, gate_t o3]
  refine ⟨trivial, trivial, trivial, ?_⟩
  rw [show ((0 : Int) == 0) = true from rfl, bcase_true, bcase_true, bcase_true, decide_eq_true (p := atL b t p ≤ atL V t p) (by omega), bcase_true, decide_eq_true (p := atL V t p ≤ atH U t p) (by omega), bcase_true, decide_eq_true (p := atH U t p ≤ atH a t p) (by omega), bcase_true, decide_eq_true (p := atL V t p ≤ atL U t p) (by omega), bcase_true, decide_eq_true (p := atH V t p ≤ atH U t p) (by omega), bcase_true, wrap_in (n := atH U t p - atL U t p) (by omega), decide_eq_true (p := atH U t p - atL U t p < 20) (by omega)]
theorem prod_small {x y : Int} (hx : 1 ≤ x ∧ x ≤ 3113000) (hy : 1 ≤ y ∧ y ≤ 3363300) : 0 ≤ x * y ∧ x * y ≤ 10469952900000 := by
  have a := Int.mul_le_mul hx.2 hy.2 (by omega) (by omega)
  have b := Int.mul_nonneg (show 0 ≤ x by omega) (show 0 ≤ y by omega)
  omega
theorem law_weather (u t p t2 p2 : Int) : Ans Try.prog Any 4 [num u, num t, num p, num t2, num p2] (.bool true) := by
  refine fn_by st_any s_Lw (vc_lawweather u t p t2 p2 _) ⟨trivial, trivial, trivial, trivial, bcase_iff.mpr ⟨fun _ => rfl, fun q1 => bcase_iff.mpr ⟨fun _ => rfl, fun q2 => bcase_iff.mpr ⟨fun _ => rfl, fun q3 => bcase_iff.mpr ⟨fun _ => rfl, fun q4 => bcase_iff.mpr ⟨fun _ => rfl, fun q5 => bcase_iff.mpr ⟨fun _ => rfl, fun q6 => ⟨trivial, trivial, trivial, ?_⟩⟩⟩⟩⟩⟩⟩⟩
  have o1 := at_eq q1
  have o2 := at_eq q2
  have o3 := at_eq q3
  have q4 := of_decide_eq_false q4
  have q5 := of_decide_eq_false q5
  have q6 := of_decide_eq_false q6
  obtain ⟨ru, w⟩ := point_ru o1
  obtain ⟨_, w2⟩ := point_ru o2
  obtain ⟨_, w3⟩ := point_ru o3
  obtain ⟨l1, l2, l3, l4⟩ := weather_law ru (by omega) w w2 w3 (by omega) (by omega)
  obtain ⟨_, _, _, n1, n2, d1, d2⟩ := fac_parts w
  obtain ⟨_, _, _, n3, n4, d3, d4⟩ := fac_parts w2
  obtain ⟨_, _, _, n5, n6, d5, d6⟩ := fac_parts w3
  have f1 := fac_range w
  have f2 := fac_range w2
  have f3 := fac_range w3
  have c1 : fN t2 p * fD t p ≤ fN t p * fD t2 p := fac_cross w2 w (Int.mul_le_mul_of_nonneg_left (show denF t ≤ denF t2 by unfold denF; omega) (by omega))
  have c2 : fN t p * fD t p2 ≤ fN t p2 * fD t p := by
    refine fac_cross w w3 (Int.mul_le_mul_of_nonneg_right (show numF p ≤ numF p2 by unfold numF; omega) (by omega))
  have p1 := prod_small ⟨n3, n4⟩ ⟨d1, d2⟩
  have p2' := prod_small ⟨n1, n2⟩ ⟨d3, d4⟩
  have p3 := prod_small ⟨n1, n2⟩ ⟨d5, d6⟩
  have p4 := prod_small ⟨n5, n6⟩ ⟨d1, d2⟩
  rw [pick_t w, pick_t w2, pick_t w3, show ((0 : Int) != 0) = false from rfl, bcase_false, bcase_false, bcase_false]
  simp only [gate_t w, gate_t w2, gate_t w3, gate_t o1, gate_t o2, gate_t o3]
  rw [decide_eq_false (p := fD t p < 1) (by omega), bcase_false, decide_eq_false (p := fD t2 p < 1) (by omega), bcase_false, decide_eq_false (p := fD t p2 < 1) (by omega), bcase_false, decide_eq_true l1, bcase_true, decide_eq_true l2, bcase_true, decide_eq_true l3, bcase_true, decide_eq_true l4, bcase_true, wrap_in (n := fN t2 p * fD t p) (by omega), wrap_in (n := fN t p * fD t2 p) (by omega), decide_eq_true c1, bcase_true, wrap_in (n := fN t p * fD t p2) (by omega), wrap_in (n := fN t p2 * fD t p) (by omega), decide_eq_true c2]
end Go.Proofs.Ytikbpleaaaeibaa
