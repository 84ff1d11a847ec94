/- Refraction: the law of the way back. -/
import Derived.Test.YtikbpleaaaeibaaRfrI
import Derived.Test.YtikbpleaaaeibaaRfrE
import Derived.Test.YtikbpleaaaeibaaRfrLB
namespace Go.Proofs.Ytikbpleaaaeibaa
open Go Go.Abs Go.RowKit
set_option linter.unusedVariables false
set_option linter.unusedSimpArgs false
theorem s_Lb : Sound Try.prog Any ΓLb :=
  Sound.cons (by kernel_rfl) (fun args p v h _ => by unfold sYes20 at h; split at h <;> cases h; exact c_awake20)
  (Sound.qcons (by kernel_rfl) (h_rfApp st_any)
  (Sound.cons (by kernel_rfl) (fun args p v h _ => by unfold sAt at h; split at h <;> cases h; exact c_rfAt st_any _ _ _ _) Sound.nil))
theorem ap_zero {a b t p lo hi : Int} (h : Ap a b t p lo hi) (e : apE a b t p lo hi = 0) : ArcV a b ∧ Wth t p ∧ Inn lo hi ∧ LoIs a t p lo ∧ HiIs b t p hi := by
  by_cases v : ArcV a b
  · by_cases k : Wth t p ∧ Inn lo hi
    · obtain ⟨x, y⟩ := h.is v k.1
      exact ⟨v, k.1, k.2, x, y⟩
    · rw [(ap_rng v k).2.2] at e; cases e
  · rw [(ap_arg (t := t) (p := p) (lo := lo) (hi := hi) v).2.2] at e; cases e
theorem ap_nonzero {a b t p lo hi : Int} (e : apE a b t p lo hi ≠ 0) : gate (okP a b t p lo hi) lo = 0 ∧ gate (okP a b t p lo hi) hi = 0 := by
  by_cases v : ArcV a b
  · by_cases k : Wth t p ∧ Inn lo hi
    · exact absurd (ap_yes v k.1 k.2).2.2 e
    · obtain ⟨x, y, _⟩ := ap_rng v k
      exact ⟨x, y⟩
  · obtain ⟨x, y, _⟩ := ap_arg (t := t) (p := p) (lo := lo) (hi := hi) v
    exact ⟨x, y⟩
theorem step_f {p : Prop} [Decidable p] {X Y : Prop} (h : ¬ p) (y : Y) : bcase (decide p) X Y := by rw [decide_eq_false h]; exact y
theorem step_t {p : Prop} [Decidable p] {X Y : Prop} (h : p) (x : X) : bcase (decide p) X Y := by rw [decide_eq_true h]; exact x
theorem back_tail (u t p : Int) (K : Value → Prop) (hK : K (.bool true)) : True ∧
    bcase (atE u u t p != 0) (K (Value.bool (gate (okT u u t p) (atL u t p) == 0 && (gate (okT u u t p) (atH u t p) == 0 && true))))
    (True ∧
    ∀ (lo hi : Int),
    Ap (IntKind.i64.wrap (u - gate (okT u u t p) (atH u t p))) (IntKind.i64.wrap (u - gate (okT u u t p) (atL u t p))) t p lo hi →
    bcase (apE (IntKind.i64.wrap (u - gate (okT u u t p) (atH u t p))) (IntKind.i64.wrap (u - gate (okT u u t p) (atL u t p))) t p lo hi == 2) (K (Value.bool true))
    (bcase (apE (IntKind.i64.wrap (u - gate (okT u u t p) (atH u t p))) (IntKind.i64.wrap (u - gate (okT u u t p) (atL u t p))) t p lo hi == 0)
    (bcase (decide (gate (okP (IntKind.i64.wrap (u - gate (okT u u t p) (atH u t p))) (IntKind.i64.wrap (u - gate (okT u u t p) (atL u t p))) t p lo hi) lo ≤ u))
    (bcase (decide (u ≤ gate (okP (IntKind.i64.wrap (u - gate (okT u u t p) (atH u t p))) (IntKind.i64.wrap (u - gate (okT u u t p) (atL u t p))) t p lo hi) hi))
    (K (Value.bool (decide (IntKind.i64.wrap (gate (okP (IntKind.i64.wrap (u - gate (okT u u t p) (atH u t p))) (IntKind.i64.wrap (u - gate (okT u u t p) (atL u t p))) t p lo hi) hi - gate (okP (IntKind.i64.wrap (u - gate (okT u u t p) (atH u t p))) (IntKind.i64.wrap (u - gate (okT u u t p) (atL u t p))) t p lo hi) lo) < 100)))) (K (Value.bool false)))
    (K (Value.bool false)))
    (K (Value.bool false)))) := by
  refine ⟨trivial, bcase_iff.mpr ⟨fun q => ?_, fun q => ⟨trivial, fun lo hi h => ?_⟩⟩⟩
  · have n := at_ne q
    rw [gate_f n, gate_f n]
    exact hK
  have o := at_eq q
  obtain ⟨ru, w⟩ := point_ru o
  have aw := at_wide ru w
  have r0 := ru.1
  have r1 := ru.2
  rw [gate_t o, gate_t o, wrap_in (n := u - atH u t p) (by omega), wrap_in (n := u - atL u t p) (by omega)] at h ⊢
  have v : ArcV (u - atH u t p) (u - atL u t p) := by unfold ArcV; omega
  by_cases n : Inn lo hi
  · obtain ⟨g1, g2, g3⟩ := ap_yes v w n
    obtain ⟨x, y⟩ := h.is v w
    obtain ⟨b1, b2, b3⟩ := back2 ru w x y n
    rw [g3, g1, g2, show ((0 : Int) == 2) = false from rfl, bcase_false, show ((0 : Int) == 0) = true from rfl, bcase_true]
    refine step_t b1 (step_t b2 ?_)
    rw [wrap_in (n := hi - lo) (by omega), decide_eq_true b3]
    exact hK
  · rw [(ap_rng v fun k : Wth t p ∧ Inn lo hi => n k.2).2.2, show ((2 : Int) == 2) = true from rfl, bcase_true]
    exact hK
theorem law_back (a b u t p : Int) : Ans Try.prog Any 5 [wid a b, num u, num t, num p] (.bool true) := by
  refine fn_by st_any s_Lb (vc_lawback a b u t p _) ⟨trivial, trivial, fun lo hi h => bcase_iff.mpr ⟨fun q => ?_, fun q => ?_⟩⟩
  · have q : apE a b t p lo hi = 0 := by simpa using q
    obtain ⟨v, w, n, x, y⟩ := ap_zero h q
    obtain ⟨g1, g2, _⟩ := ap_yes v w n
    obtain ⟨rl, rh, le, b1, b2⟩ := back1 v.2.1 w x y n
    have l0 := rl.1
    have l1 := rl.2
    have h0 := rh.1
    have h1 := rh.2
    have ok : okT lo hi t p := ⟨⟨by unfold ArcV; omega, n⟩, w⟩
    have wl := at_wide rl w
    have wh := at_wide rh w
    rw [g1, g2, (at_zero lo hi t p).mpr ok, gate_t ok, gate_t ok, show ((0 : Int) != 0) = false from rfl, bcase_false, wrap_in (n := lo - atH lo t p) (by omega), wrap_in (n := hi - atL hi t p) (by omega)]
    exact ⟨trivial, step_f (by omega) (step_f (by omega) (step_f (by omega) (back_tail u t p (fun v => v = .bool true) rfl)))⟩
  · have q : apE a b t p lo hi ≠ 0 := by simpa using q
    obtain ⟨g1, g2⟩ := ap_nonzero q
    rw [g1, g2, show (!((0 : Int) == 0 && ((0 : Int) == 0 && true))) = false from rfl, bcase_false]
    exact back_tail u t p (fun v => v = .bool true) rfl
end Go.Proofs.Ytikbpleaaaeibaa
