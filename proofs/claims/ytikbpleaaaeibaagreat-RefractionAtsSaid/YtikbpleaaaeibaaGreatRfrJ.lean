/- Refraction: apparent altitudes, by the reference. -/
import Derived.Test.YtikbpleaaaeibaaGreatRfrY
import Derived.Test.YtikbpleaaaeibaaGreatRfrI
import Derived.Test.YtikbpleaaaeibaaGreatRfrG
namespace Go.Proofs.YtikbpleaaaeibaaGreat
open Go Go.Abs Go.RowKit
set_option linter.unusedVariables false
set_option linter.unusedSimpArgs false
theorem l1_up {a t p i j : Int} (w : Wth t p) (s : L1 a t p i j) (h : 1 < j - i) (q : (i + j) / 2 - atL ((i + j) / 2) t p ≤ a) : L1 a t p ((i + j) / 2) j := by
  obtain ⟨l0, lh, h1, ins, out⟩ := s
  have hm : RU ((i + j) / 2) := ⟨by omega, by omega⟩
  exact ⟨by omega, by omega, h1, fun u hu k => by have := (less_mono hu hm k w).1; omega, out⟩
theorem l1_down {a t p i j : Int} (w : Wth t p) (s : L1 a t p i j) (h : 1 < j - i) (q : ¬ (i + j) / 2 - atL ((i + j) / 2) t p ≤ a) : L1 a t p i ((i + j) / 2) := by
  obtain ⟨l0, lh, h1, ins, out⟩ := s
  have hm : RU ((i + j) / 2) := ⟨by omega, by omega⟩
  exact ⟨l0, by omega, by omega, ins, fun u hu k => by have := (less_mono hm hu k w).1; omega⟩
theorem l2_down {b t p i j : Int} (w : Wth t p) (s : L2 b t p i j) (h : 1 < j - i) (q : b ≤ (i + j) / 2 - atH ((i + j) / 2) t p) : L2 b t p i ((i + j) / 2) := by
  obtain ⟨l0, lh, h1, out, ins⟩ := s
  have hm : RU ((i + j) / 2) := ⟨by omega, by omega⟩
  exact ⟨l0, by omega, by omega, out, fun u hu k => by have := (less_mono hm hu k w).2; omega⟩
theorem l2_up {b t p i j : Int} (w : Wth t p) (s : L2 b t p i j) (h : 1 < j - i) (q : ¬ b ≤ (i + j) / 2 - atH ((i + j) / 2) t p) : L2 b t p ((i + j) / 2) j := by
  obtain ⟨l0, lh, h1, out, ins⟩ := s
  have hm : RU ((i + j) / 2) := ⟨by omega, by omega⟩
  exact ⟨by omega, by omega, h1, fun u hu k => by have := (less_mono hu hm k w).2; omega, ins⟩
variable {Φ : World → Prop} (hst : ∀ w w', Φ w → Below w.heap.size w w' → Φ w')
include hst
theorem s_Rap20 : Sound Tryz.prog Φ ΓRapR :=
  Sound.cons (by kernel_rfl) (fun args p v h hp => by unfold sVal5 at h; split at h <;> cases h; exact c_r5valid5 hst _ _)
  (Sound.cons (by kernel_rfl) (fun args p v h hp => by unfold sWth at h; split at h <;> cases h; exact c_r20weather hst _ _)
  (Sound.cons (by kernel_rfl) (fun args p v h hp => by unfold sFl2 at h; split at h <;> cases h; exact c_r4floor hst hp.1 (by have := hp.2; unfold TwoI at this; omega))
  (Sound.cons (by kernel_rfl) (fun args p v h hp => by unfold sPoint at h; split at h <;> cases h; exact c_r20point hst hp.1 hp.2) Sound.nil)))
set_option maxRecDepth 100000 in
theorem c_r20App {a b t p lo hi : Int} (h : Ap a b t p lo hi) : Ans Tryz.prog Φ 14 [wid a b, num t, num p] (pair (wid (gate (okP a b t p lo hi) lo) (gate (okP a b t p lo hi) hi)) (num (apE a b t p lo hi))) := by
  refine fn_by hst (s_Rap20 hst) (vc_r20App a b t p _) ⟨trivial, bcase_iff.mpr ⟨fun q => ?_, fun q => ?_⟩⟩
  · have n : ¬ ArcV a b := by simpa using q
    exact ap3 (ap_arg n)
  have v : ArcV a b := by simpa using q
  refine ⟨trivial, bcase_iff.mpr ⟨fun q => ?_, fun q => ?_⟩⟩
  · have n : ¬ Wth t p := by simpa using q
    exact ap3 (ap_rng v fun k => n k.1)
  have w : Wth t p := by simpa using q
  obtain ⟨il, ih⟩ := h.is v w
  have va := v
  unfold ArcV at va
  clear q
  refine ⟨(-60001, 5400001), ?_, ⟨by decide, by decide, by decide, fun u hu k => by have := hu.1; omega, fun u hu k => by have := hu.2; omega⟩, ?_⟩
  · repeat' (first | exact rfl | exact trivial | apply And.intro)
  rintro ⟨i, j⟩ hs
  dsimp only at hs ⊢
  have i0 := hs.l0
  have ij := hs.lh
  have jn := hs.h1
  refine bcase_iff.mpr ⟨fun q => ?_, fun q => ?_⟩
  · rw [wrap_in (n := j - i) (by omega)] at q
    have q := of_decide_eq_true q
    have ru : RU ((i + j) / 2) := ⟨by omega, by omega⟩
    have aw := at_wide ru w
    rw [wrap_in (n := i + j) (by omega), wrap_in (n := (i + j) / 2 - atL ((i + j) / 2) t p) (by omega)]
    refine ⟨⟨⟨by omega, by omega⟩, rfl⟩, ⟨ru, w⟩, bcase_iff.mpr ⟨fun k => ?_, fun k => ?_⟩⟩
    · have k := of_decide_eq_true k
      refine ⟨((i + j) / 2, j), ?_, l1_up w hs (by omega) k, by dsimp only; omega⟩
      repeat' (first | exact rfl | exact trivial | apply And.intro)
    · have k := of_decide_eq_false k
      refine ⟨(i, (i + j) / 2), ?_, l1_down w hs (by omega) k, by dsimp only; omega⟩
      repeat' (first | exact rfl | exact trivial | apply And.intro)
  rw [wrap_in (n := j - i) (by omega)] at q
  have q := of_decide_eq_false q
  have e : j = i + 1 := by omega
  subst e
  have lo1 : lo = i := lo_one il ⟨i0, by omega, hs.ins, fun u hu k => hs.out u hu (by omega)⟩
  clear hs q
  refine ⟨(-60001, 5400001), ?_, ⟨by decide, by decide, by decide, fun u hu k => by have := hu.1; omega, fun u hu k => by have := hu.2; omega⟩, ?_⟩
  · repeat' (first | exact rfl | exact trivial | apply And.intro)
  rintro ⟨k, l⟩ hs
  dsimp only at hs ⊢
  have k0 := hs.l0
  have kl := hs.lh
  have ln := hs.h1
  refine bcase_iff.mpr ⟨fun q => ?_, fun q => ?_⟩
  · rw [wrap_in (n := l - k) (by omega)] at q
    have q := of_decide_eq_true q
    have ru : RU ((k + l) / 2) := ⟨by omega, by omega⟩
    have aw := at_wide ru w
    rw [wrap_in (n := k + l) (by omega), wrap_in (n := (k + l) / 2 - atH ((k + l) / 2) t p) (by omega)]
    refine ⟨⟨⟨by omega, by omega⟩, rfl⟩, ⟨ru, w⟩, bcase_iff.mpr ⟨fun z => ?_, fun z => ?_⟩⟩
    · have z := of_decide_eq_true z
      refine ⟨(k, (k + l) / 2), ?_, l2_down w hs (by omega) z, by dsimp only; omega⟩
      repeat' (first | exact rfl | exact trivial | apply And.intro)
    · have z := of_decide_eq_false z
      refine ⟨((k + l) / 2, l), ?_, l2_up w hs (by omega) z, by dsimp only; omega⟩
      repeat' (first | exact rfl | exact trivial | apply And.intro)
  rw [wrap_in (n := l - k) (by omega)] at q
  have q := of_decide_eq_false q
  have e : l = k + 1 := by omega
  subst e
  have hi1 : hi = k + 1 := hi_one ih ⟨by omega, ln, fun u hu z => hs.out u hu (by omega), hs.ins⟩
  rw [← lo1, ← hi1]
  refine bcase_iff.mpr ⟨fun q1 => ?_, fun q1 => bcase_iff.mpr ⟨fun q2 => ?_, fun q2 => ?_⟩⟩
  · have q1 := of_decide_eq_true q1
    exact ap3 (ap_rng v fun n => by have := n.2.1; omega)
  · have q2 := of_decide_eq_true q2
    exact ap3 (ap_rng v fun n => by have := n.2.2; omega)
  · have q1 := of_decide_eq_false q1
    have q2 := of_decide_eq_false q2
    exact ap3 (ap_yes v w ⟨by omega, by omega⟩)
theorem h_r20App : ∀ args p Q, sApp args = some (p, Q) → p → ∀ K, Q K → ∃ v, Ans Tryz.prog Φ 14 args v ∧ K v := by
  intro args p Q h _ K hK
  unfold sApp at h
  split at h <;> cases h
  rename_i a b t z _h
  by_cases w : Wth t z
  · obtain ⟨lo, hl⟩ := lo_some a w
    obtain ⟨hi, hh⟩ := hi_some b w
    have ap : Ap a b t z lo hi := ⟨fun _ _ => ⟨hl, hh⟩⟩
    exact ⟨_, c_r20App hst ap, hK lo hi ap⟩
  · have ap : Ap a b t z 0 0 := ⟨fun _ k => absurd k w⟩
    exact ⟨_, c_r20App hst ap, hK 0 0 ap⟩
end Go.Proofs.YtikbpleaaaeibaaGreat
