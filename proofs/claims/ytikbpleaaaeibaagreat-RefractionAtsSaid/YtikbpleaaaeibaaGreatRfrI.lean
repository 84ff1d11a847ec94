/- Refraction: apparent altitudes, by the program. -/
import Derived.Test.YtikbpleaaaeibaaGreatRfrX
import Derived.Test.YtikbpleaaaeibaaGreatRfrC
namespace Go.Proofs.YtikbpleaaaeibaaGreat
open Go Go.Abs Go.RowKit
set_option linter.unusedVariables false
set_option linter.unusedSimpArgs false
theorem ap3 {L H E l h e : Int} (a : L = l ∧ H = h ∧ E = e) : Value.tuple #[Value.agg #[Value.int IntKind.i64 l, Value.int IntKind.i64 h], Value.int IntKind.i64 e] = pair (wid L H) (num E) := by
  obtain ⟨rfl, rfl, rfl⟩ := a
  rfl
theorem ap_arg {a b t p lo hi : Int} (n : ¬ ArcV a b) : gate (okP a b t p lo hi) lo = 0 ∧ gate (okP a b t p lo hi) hi = 0 ∧ apE a b t p lo hi = 1 :=
  ⟨gate_f fun k => n k.1, gate_f fun k => n k.1, pick_f n⟩
theorem ap_rng {a b t p lo hi : Int} (v : ArcV a b) (n : ¬ (Wth t p ∧ Inn lo hi)) : gate (okP a b t p lo hi) lo = 0 ∧ gate (okP a b t p lo hi) hi = 0 ∧ apE a b t p lo hi = 2 :=
  ⟨gate_f fun k => n k.2, gate_f fun k => n k.2, (pick_t v).trans (pick_f n)⟩
theorem ap_yes {a b t p lo hi : Int} (v : ArcV a b) (w : Wth t p) (n : Inn lo hi) : gate (okP a b t p lo hi) lo = lo ∧ gate (okP a b t p lo hi) hi = hi ∧ apE a b t p lo hi = 0 :=
  ⟨gate_t ⟨v, w, n⟩, gate_t ⟨v, w, n⟩, (pick_t v).trans (pick_t ⟨w, n⟩)⟩
theorem sr_zero (Q : Int → Prop) : SR Q 0 5460001 := ⟨by omega, by omega, by omega, fun k a b => by omega, fun k a b => by omega⟩
theorem sr_up {Q : Int → Prop} {i j : Int} (hm : ∀ k l : Int, 0 ≤ k → k ≤ l → l < 5460001 → Q k → Q l) (s : SR Q i j) (h : i < j) (q : ¬ Q ((i + j) / 2)) : SR Q ((i + j) / 2 + 1) j := by
  obtain ⟨i0, ij, jn, lo, hi⟩ := s
  exact ⟨by omega, by omega, jn, fun k a b c => q (hm k _ a (by omega) (by omega) c), hi⟩
theorem sr_down {Q : Int → Prop} {i j : Int} (hm : ∀ k l : Int, 0 ≤ k → k ≤ l → l < 5460001 → Q k → Q l) (s : SR Q i j) (h : i < j) (q : Q ((i + j) / 2)) : SR Q i ((i + j) / 2) := by
  obtain ⟨i0, ij, jn, lo, hi⟩ := s
  exact ⟨i0, by omega, by omega, lo, fun k a b => hm _ k (by omega) a b q⟩
theorem mid_is {i j : Int} (h0 : 0 ≤ i) (h1 : i ≤ 5460001) (h2 : 0 ≤ j) (h3 : j ≤ 5460001) : IntKind.i64.wrap ((IntKind.u64.wrap (IntKind.i64.wrap (i + j))).fdiv (2 ^ 1)) = (i + j) / 2 := by
  rw [wrap_in (n := i + j) (by omega), wrap_u64 (n := i + j) (by omega), Int.fdiv_eq_ediv_of_nonneg _ (by decide), show (2 : Int) ^ 1 = 2 from rfl, wrap_in (by omega)]
theorem pr1_is {a t p m : Int} : Pr1 a t p m ↔ a < -60000 + m - tmL (oneL (-60000 + m)) t p := by
  have e : m - 60000 = -60000 + m := by omega
  constructor
  · intro h
    have := h.is
    rw [e] at this
    exact this
  · intro h
    refine ⟨?_⟩
    rw [e]
    exact h
theorem pr2_is {b t p m : Int} : Pr2 b t p m ↔ b ≤ -60000 + m - tmH (oneH (-60000 + m)) t p := by
  have e : m - 60000 = -60000 + m := by omega
  constructor
  · intro h
    have := h.is
    rw [e] at this
    exact this
  · intro h
    refine ⟨?_⟩
    rw [e]
    exact h
theorem at_q20 {u t p : Int} (h : RU u) (w : Wth t p) : Q20 (tmL (oneL u) t p) ∧ Q20 (tmH (oneH u) t p) := by
  obtain ⟨a, b, c, d⟩ := at_wide h w
  have e1 : tmL (oneL u) t p = atL u t p := rfl
  have e2 : tmH (oneH u) t p = atH u t p := rfl
  rw [e1, e2]
  unfold Q20
  omega
variable {Φ : World → Prop} (hst : ∀ w w', Φ w → Below w.heap.size w w' → Φ w')
include hst
theorem s_Rap : Sound Tryz.prog Φ ΓRap :=
  Sound.cons (by kernel_rfl) (fun args p v h hp => by unfold sVal5 at h; split at h <;> cases h; exact c_anvalid5 hst _ _)
  (Sound.cons (by kernel_rfl) (fun args p v h hp => by unfold sWth at h; split at h <;> cases h; exact c_rfweather hst _ _)
  (Sound.cons (by kernel_rfl) (fun args p v h hp => by unfold sOne at h; split at h <;> cases h; exact c_rfone hst hp)
  (Sound.cons (by kernel_rfl) (fun args p v h hp => by unfold sTimes at h; split at h <;> cases h; exact c_rftimes hst hp.1 hp.2.1 hp.2.2)
  (Sound.kcons (by kernel_rfl) (fun args cells p v h hp => by
    unfold kBeyond at h; split at h <;> cases h
    obtain ⟨h1, h2⟩ := hp
    unfold RU at h1
    unfold Q20 at h2
    refine kfn_by hst Sound.nil (vc_rfap2 _ _ _ _ _ _) ?_
    rw [wrap_in (by omega)]
    try rfl)
  (Sound.kcons (by kernel_rfl) (fun args cells p v h hp => by
    unfold kNot at h; split at h <;> cases h
    obtain ⟨h1, h2⟩ := hp
    unfold RU at h1
    unfold Q20 at h2
    refine kfn_by hst Sound.nil (vc_rfap3 _ _ _ _ _ _) ?_
    rw [wrap_in (by omega)]
    try rfl) Sound.nil)))))
set_option maxRecDepth 100000 in
theorem c_rfApp {a b t p lo hi : Int} (h : Ap a b t p lo hi) : Ans Tryz.prog Φ 13 [wid a b, num t, num p] (pair (wid (gate (okP a b t p lo hi) lo) (gate (okP a b t p lo hi) hi)) (num (apE a b t p lo hi))) := by
  refine fn_by hst (s_Rap hst) (vc_rfApp a b t p _) ⟨trivial, bcase_iff.mpr ⟨fun q => ?_, fun q => ?_⟩⟩
  · have n : ¬ ArcV a b := by simpa using q
    exact ap3 (ap_arg n)
  have v : ArcV a b := by simpa using q
  refine ⟨trivial, bcase_iff.mpr ⟨fun q => ?_, fun q => ?_⟩⟩
  · have n : ¬ Wth t p := by simpa using q
    exact ap3 (ap_rng v fun k => n k.1)
  have w : Wth t p := by simpa using q
  obtain ⟨il, ih⟩ := h.is v w
  clear q
  refine ⟨(0, 5460001), ⟨rfl, ⟨rfl, rfl⟩, rfl, rfl, rfl, rfl, rfl, rfl, rfl, rfl, rfl, ⟨rfl, rfl⟩, trivial⟩, sr_zero _, ?_⟩
  rintro ⟨i, j⟩ hs
  dsimp only at hs ⊢
  have i0 := hs.i0
  have ij := hs.ij
  have jn := hs.jn
  refine bcase_iff.mpr ⟨fun q => ?_, fun q => ?_⟩
  · have q := of_decide_eq_true q
    have ru : RU (-60000 + (i + j) / 2) := ⟨by omega, by omega⟩
    rw [mid_is i0 (by omega) (by omega) jn, wrap_in (n := -60000 + (i + j) / 2) (by omega)]
    refine ⟨ru, ⟨(one_q20 ru).1, (one_q20 ru).2, w⟩, ⟨ru, (at_q20 ru w).1⟩, bcase_iff.mpr ⟨fun k => ?_, fun k => ?_⟩⟩
    · have k : ¬ Pr1 a t p ((i + j) / 2) := fun z => by
        have := pr1_is.mp z
        simp at k
        omega
      refine ⟨((i + j) / 2 + 1, j), ?_, sr_up (fun x y => pr1_mono w x y) hs q k, by dsimp only; omega⟩
      dsimp only
      rw [wrap_in (n := (i + j) / 2 + 1) (by omega)]
      repeat' (first | exact rfl | exact trivial | apply And.intro)
    · have k : Pr1 a t p ((i + j) / 2) := pr1_is.mpr (by simpa using k)
      refine ⟨(i, (i + j) / 2), ?_, sr_down (fun x y => pr1_mono w x y) hs q k, by dsimp only; omega⟩
      repeat' (first | exact rfl | exact trivial | apply And.intro)
  have q := of_decide_eq_false q
  have e : i = j := by omega
  subst e
  have lo1 : lo = -60000 + i - 1 := lo_one il (lo_is i0 jn hs.lo hs.hi)
  clear ij hs q
  refine ⟨(0, 5460001), ?_, sr_zero _, ?_⟩
  · repeat' (first | exact rfl | exact trivial | apply And.intro)
  rintro ⟨k, l⟩ hs
  dsimp only at hs ⊢
  have k0 := hs.i0
  have kl := hs.ij
  have ln := hs.jn
  refine bcase_iff.mpr ⟨fun q => ?_, fun q => ?_⟩
  · have q := of_decide_eq_true q
    have ru : RU (-60000 + (k + l) / 2) := ⟨by omega, by omega⟩
    rw [mid_is k0 (by omega) (by omega) ln, wrap_in (n := -60000 + (k + l) / 2) (by omega)]
    refine ⟨ru, ⟨(one_q20 ru).1, (one_q20 ru).2, w⟩, ⟨ru, (at_q20 ru w).2⟩, bcase_iff.mpr ⟨fun z => ?_, fun z => ?_⟩⟩
    · have z : ¬ Pr2 b t p ((k + l) / 2) := fun y => by
        have := pr2_is.mp y
        simp at z
        omega
      refine ⟨((k + l) / 2 + 1, l), ?_, sr_up (fun x y => pr2_mono w x y) hs q z, by dsimp only; omega⟩
      dsimp only
      rw [wrap_in (n := (k + l) / 2 + 1) (by omega)]
      repeat' (first | exact rfl | exact trivial | apply And.intro)
    · have z : Pr2 b t p ((k + l) / 2) := pr2_is.mpr (by simpa using z)
      refine ⟨(k, (k + l) / 2), ?_, sr_down (fun x y => pr2_mono w x y) hs q z, by dsimp only; omega⟩
      repeat' (first | exact rfl | exact trivial | apply And.intro)
  have q := of_decide_eq_false q
  have e : k = l := by omega
  subst e
  have hi1 : hi = -60000 + k := hi_one ih (hi_is k0 ln hs.lo hs.hi)
  rw [wrap_in (n := -60000 + i) (by omega), wrap_in (n := -60000 + i - 1) (by omega), wrap_in (n := -60000 + k) (by omega), ← lo1, ← hi1]
  refine bcase_iff.mpr ⟨fun q1 => ?_, fun q1 => bcase_iff.mpr ⟨fun q2 => ?_, fun q2 => ?_⟩⟩
  · have q1 := of_decide_eq_true q1
    exact ap3 (ap_rng v fun n => by have := n.2.1; omega)
  · have q2 := of_decide_eq_true q2
    exact ap3 (ap_rng v fun n => by have := n.2.2; omega)
  · have q1 := of_decide_eq_false q1
    have q2 := of_decide_eq_false q2
    exact ap3 (ap_yes v w ⟨by omega, by omega⟩)
theorem h_rfApp : ∀ args p Q, sApp args = some (p, Q) → p → ∀ K, Q K → ∃ v, Ans Tryz.prog Φ 13 args v ∧ K v := by
  intro args p Q h _ K hK
  unfold sApp at h
  split at h <;> cases h
  rename_i a b t z _h
  by_cases w : Wth t z
  · obtain ⟨lo, hl⟩ := lo_some a w
    obtain ⟨hi, hh⟩ := hi_some b w
    have ap : Ap a b t z lo hi := ⟨fun _ _ => ⟨hl, hh⟩⟩
    exact ⟨_, c_rfApp hst ap, hK lo hi ap⟩
  · have ap : Ap a b t z 0 0 := ⟨fun _ k => absurd k w⟩
    exact ⟨_, c_rfApp hst ap, hK 0 0 ap⟩
end Go.Proofs.YtikbpleaaaeibaaGreat
