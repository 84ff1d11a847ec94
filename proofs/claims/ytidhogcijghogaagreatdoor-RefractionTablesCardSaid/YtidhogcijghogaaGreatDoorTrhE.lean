/- The reference's floor of a sine, its ends, and the enclosures: contracts. -/
import Derived.Test.YtidhogcijghogaaGreatDoorTrhD
namespace Go.Proofs.YtidhogcijghogaaGreatDoor
open Go Go.Abs Go.RowKit Go.Sine
set_option linter.unusedVariables false
set_option linter.unusedSimpArgs false
theorem exact_tail {m : Int} (h0 : 0 ≤ m) (h1 : m < 21600000) (U : Value) (hU : U = pair (num (if exN m then loI m else 0)) (.bool (exN m))) :
    (bcase (m.tmod 1800000 != 0) (Value.tuple #[Value.int IntKind.i64 0, Value.bool false] = U)
 (bcase ((IntKind.i64.wrap (m.tdiv 1800000)).tmod 3 == 0)
 (bcase (inB (IntKind.i64.wrap ((IntKind.i64.wrap (m.tdiv 1800000)).tdiv 3)) 4)
 (bcase (IntKind.i64.wrap ((IntKind.i64.wrap (m.tdiv 1800000)).tdiv 3) == (↑3 : Int)) (Value.tuple #[Value.int IntKind.i64 (IntKind.i64.wrap (-1 * 1073741824)), Value.bool true] = U)
 (bcase (IntKind.i64.wrap ((IntKind.i64.wrap (m.tdiv 1800000)).tdiv 3) == (↑2 : Int)) (Value.tuple #[Value.int IntKind.i64 (IntKind.i64.wrap (0 * 1073741824)), Value.bool true] = U)
 (bcase (IntKind.i64.wrap ((IntKind.i64.wrap (m.tdiv 1800000)).tdiv 3) == (↑1 : Int)) (Value.tuple #[Value.int IntKind.i64 (IntKind.i64.wrap (1 * 1073741824)), Value.bool true] = U)
 (bcase (IntKind.i64.wrap ((IntKind.i64.wrap (m.tdiv 1800000)).tdiv 3) == (↑0 : Int)) (Value.tuple #[Value.int IntKind.i64 (IntKind.i64.wrap (0 * 1073741824)), Value.bool true] = U) False))))
 False)
 (bcase ((IntKind.i64.wrap (m.tdiv 1800000)).tmod 6 == 2) (Value.tuple #[Value.int IntKind.i64 0, Value.bool false] = U)
 (bcase ((IntKind.i64.wrap (m.tdiv 1800000)).tmod 6 == 4) (Value.tuple #[Value.int IntKind.i64 0, Value.bool false] = U)
 (bcase (inB (IntKind.i64.wrap (m.tdiv 1800000)) 12)
 (bcase (IntKind.i64.wrap (m.tdiv 1800000) == (↑11 : Int)) (Value.tuple #[Value.int IntKind.i64 (IntKind.i64.wrap (-1 * 536870912)), Value.bool true] = U)
 (bcase (IntKind.i64.wrap (m.tdiv 1800000) == (↑10 : Int)) (Value.tuple #[Value.int IntKind.i64 (IntKind.i64.wrap (-2 * 536870912)), Value.bool true] = U)
 (bcase (IntKind.i64.wrap (m.tdiv 1800000) == (↑9 : Int)) (Value.tuple #[Value.int IntKind.i64 (IntKind.i64.wrap (-2 * 536870912)), Value.bool true] = U)
 (bcase (IntKind.i64.wrap (m.tdiv 1800000) == (↑8 : Int)) (Value.tuple #[Value.int IntKind.i64 (IntKind.i64.wrap (-2 * 536870912)), Value.bool true] = U)
 (bcase (IntKind.i64.wrap (m.tdiv 1800000) == (↑7 : Int)) (Value.tuple #[Value.int IntKind.i64 (IntKind.i64.wrap (-1 * 536870912)), Value.bool true] = U)
 (bcase (IntKind.i64.wrap (m.tdiv 1800000) == (↑6 : Int)) (Value.tuple #[Value.int IntKind.i64 (IntKind.i64.wrap (0 * 536870912)), Value.bool true] = U)
 (bcase (IntKind.i64.wrap (m.tdiv 1800000) == (↑5 : Int)) (Value.tuple #[Value.int IntKind.i64 (IntKind.i64.wrap (1 * 536870912)), Value.bool true] = U)
 (bcase (IntKind.i64.wrap (m.tdiv 1800000) == (↑4 : Int)) (Value.tuple #[Value.int IntKind.i64 (IntKind.i64.wrap (2 * 536870912)), Value.bool true] = U)
 (bcase (IntKind.i64.wrap (m.tdiv 1800000) == (↑3 : Int)) (Value.tuple #[Value.int IntKind.i64 (IntKind.i64.wrap (2 * 536870912)), Value.bool true] = U)
 (bcase (IntKind.i64.wrap (m.tdiv 1800000) == (↑2 : Int)) (Value.tuple #[Value.int IntKind.i64 (IntKind.i64.wrap (2 * 536870912)), Value.bool true] = U)
 (bcase (IntKind.i64.wrap (m.tdiv 1800000) == (↑1 : Int)) (Value.tuple #[Value.int IntKind.i64 (IntKind.i64.wrap (1 * 536870912)), Value.bool true] = U) (bcase (IntKind.i64.wrap (m.tdiv 1800000) == (↑0 : Int)) (Value.tuple #[Value.int IntKind.i64 (IntKind.i64.wrap (0 * 536870912)), Value.bool true] = U) False))))))))))))
 False))))) := by
  by_cases hm : m % 1800000 = 0
  · obtain ⟨k, hk⟩ : ∃ k, m = 1800000 * k := ⟨m / 1800000, by omega⟩
    have hk0 : 0 ≤ k := by omega
    have hk1 : k < 12 := by omega
    have hc : k = 0 ∨ k = 1 ∨ k = 2 ∨ k = 3 ∨ k = 4 ∨ k = 5 ∨ k = 6 ∨ k = 7 ∨ k = 8 ∨ k = 9 ∨ k = 10 ∨ k = 11 := by omega
    rcases hc with rfl | rfl | rfl | rfl | rfl | rfl | rfl | rfl | rfl | rfl | rfl | rfl <;> subst hk <;> rw [hU] <;> exact rfl
  · have e : exN m = false := by
      unfold exN exB quartI mI
      rw [Int.emod_eq_of_lt h0 h1]
      simp only [Bool.or_eq_false_iff, beq_eq_false_iff_ne]
      split <;> split <;> omega
    rw [e] at hU
    refine bcase_iff.mpr ⟨fun _ => hU.symm, fun q => ?_⟩
    have q := eq_of_beq (by simpa using q : (m.tmod 1800000 == 0) = true)
    rw [Int.tmod_eq_emod_of_nonneg h0] at q
    exact absurd q hm
theorem exN_mI (n : Int) : exN (mI n) = exN n ∧ loI (mI n) = loI n := by
  have e : mI (mI n) = mI n := by unfold mI; omega
  unfold exN loI southB quartI
  rw [e]
  exact ⟨rfl, rfl⟩
variable {Φ : World → Prop} (hst : ∀ w w', Φ w → Below w.heap.size w w' → Φ w')
include hst
theorem c_r6Exact {n : Int} (hn : I64 n) : Ans Tryz.prog Φ 100 [.int .i64 n] (pair (num (if exN n then loI n else 0)) (.bool (exN n))) := by
  refine fn_by hst Sound.nil (vc_r6Exact n _) ?_
  have m0 : 0 ≤ mI n ∧ mI n < 21600000 := by unfold mI; omega
  obtain ⟨x1, x2⟩ := exN_mI n
  have hU : pair (num (if exN n then loI n else 0)) (.bool (exN n)) = pair (num (if exN (mI n) then loI (mI n) else 0)) (.bool (exN (mI n))) := by rw [x1, x2]
  refine bcase_iff.mpr ⟨fun q => ?_, fun q => ?_⟩
  · have q := of_decide_eq_true q
    rcases tmod_cases n with ⟨_, e⟩ | ⟨h, _⟩
    · rw [e, wrap_in (by omega)]
      exact exact_tail m0.1 m0.2 _ hU
    · exact absurd q h
  · have q := of_decide_eq_false q
    rcases tmod_cases n with ⟨h, _⟩ | ⟨_, e⟩
    · exact absurd h q
    · rw [e]
      exact exact_tail m0.1 m0.2 _ hU
theorem s_Qf : Sound Tryz.prog Φ ΓQf :=
  Sound.cons (by kernel_rfl) (fun args p v h hp => by unfold sExact at h; split at h <;> cases h; exact c_r6Exact hst hp)
  (Sound.cons (by kernel_rfl) (fun args p v h hp => by unfold sQuick at h; split at h <;> cases h; exact c_r6Quick hst hp)
  (Sound.cons (by kernel_rfl) (fun args p v h hp => by unfold no2 at h; split at h <;> cases h; exact hp.elim) Sound.nil))
omit hst in
theorem quickI_bound (n : Int) : -4611686018427388300 ≤ quickI n ∧ quickI n ≤ 4611686018427388300 := by
  have m0 : 0 ≤ mI n ∧ mI n < 21600000 := by unfold mI; omega
  have h : 0 ≤ halfI (mI n) ∧ halfI (mI n) ≤ 2700000 := by unfold halfI; split <;> omega
  have b := qq_bound (cosB (mI n)) h.1 h.2
  unfold quickI
  split <;> omega
theorem c_r6Floor {n : Int} (hn : I64 n) : Ans Tryz.prog Φ 84 [.int .i64 n] (pair (num (loI n)) (.bool (exN n))) := by
  refine fn_by hst (s_Qf hst) (vc_r6Floor n _) ?_
  refine ⟨hn, bcase_iff.mpr ⟨fun q => ?_, fun q => ⟨hn, ?_⟩⟩⟩
  · rw [q, if_pos rfl]
  · obtain ⟨f1, f2, f3⟩ := quick_floor q
    have b := quickI_bound n
    have e : ∀ z : Int, z.fdiv (2 ^ 32) = z / 4294967296 := fun z => by rw [Int.fdiv_eq_ediv_of_nonneg _ (by decide)]; rfl
    rw [wrap_in (n := quickI n - 256) (by omega), wrap_in (n := quickI n + 256) (by omega), e, e, e, f1, f2, f3, q]
    refine bcase_iff.mpr ⟨fun _ => rfl, fun z => ?_⟩
    exact absurd z (by simp)
end Go.Proofs.YtidhogcijghogaaGreatDoor
