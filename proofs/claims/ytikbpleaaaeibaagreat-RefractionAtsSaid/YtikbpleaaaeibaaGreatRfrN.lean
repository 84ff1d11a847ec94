/- Refraction: the law of refractions, and of apparent altitudes. -/
import Derived.Test.YtikbpleaaaeibaaGreatRfrJ
import Derived.Test.YtikbpleaaaeibaaGreatRfrE
import Derived.Test.YtikbpleaaaeibaaGreatRfrLA
namespace Go.Proofs.YtikbpleaaaeibaaGreat
open Go Go.Abs Go.RowKit
set_option linter.unusedVariables false
set_option linter.unusedSimpArgs false
theorem s_La : Sound Tryz.prog Any ΓLa20 :=
  Sound.cons (by kernel_rfl) (fun args p v h _ => by unfold sYes20 at h; split at h <;> cases h; exact c_awake20)
  (Sound.qcons (by kernel_rfl) (h_rfApp st_any)
  (Sound.qcons (by kernel_rfl) (h_r20App st_any)
  (Sound.cons (by kernel_rfl) (fun args p v h _ => by unfold sAt at h; split at h <;> cases h; exact c_rfAt st_any _ _ _ _)
  (Sound.cons (by kernel_rfl) (fun args p v h _ => by unfold sVal5 at h; split at h <;> cases h; exact c_r5valid5 st_any _ _)
  (Sound.cons (by kernel_rfl) (fun args p v h _ => by unfold sWithin at h; split at h <;> cases h; exact c_r20within st_any _ _)
  (Sound.cons (by kernel_rfl) (fun args p v h _ => by unfold sWth at h; split at h <;> cases h; exact c_r20weather st_any _ _)
  (Sound.cons (by kernel_rfl) (fun args p v h hp => by unfold sAtR at h; split at h <;> cases h; exact c_r20at st_any hp) Sound.nil)))))))
theorem ap_same {c d t p lo hi lo1 hi1 : Int} (h : Ap c d t p lo hi) (k : Ap c d t p lo1 hi1) : gate (okP c d t p lo hi) lo = gate (okP c d t p lo1 hi1) lo1 ∧ gate (okP c d t p lo hi) hi = gate (okP c d t p lo1 hi1) hi1 ∧ apE c d t p lo hi = apE c d t p lo1 hi1 := by
  by_cases v : ArcV c d
  · by_cases w : Wth t p
    · obtain ⟨a1, a2⟩ := h.is v w
      obtain ⟨b1, b2⟩ := k.is v w
      have e1 := lo_one a1 b1
      have e2 := hi_one a2 b2
      subst e1 e2
      exact ⟨rfl, rfl, rfl⟩
    · obtain ⟨a1, a2, a3⟩ := ap_rng (lo := lo) (hi := hi) v (fun n : Wth t p ∧ Inn lo hi => w n.1)
      obtain ⟨b1, b2, b3⟩ := ap_rng (lo := lo1) (hi := hi1) v (fun n : Wth t p ∧ Inn lo1 hi1 => w n.1)
      exact ⟨a1.trans b1.symm, a2.trans b2.symm, a3.trans b3.symm⟩
  · obtain ⟨a1, a2, a3⟩ := ap_arg (t := t) (p := p) (lo := lo) (hi := hi) v
    obtain ⟨b1, b2, b3⟩ := ap_arg (t := t) (p := p) (lo := lo1) (hi := hi1) v
    exact ⟨a1.trans b1.symm, a2.trans b2.symm, a3.trans b3.symm⟩
theorem law_ats (a b c d t p : Int) : Ans Tryz.prog Any 4 [wid a b, wid c d, num t, num p] (.bool true) := by
  refine fn_by st_any s_La (vc_lawats a b c d t p _) ⟨trivial, trivial, fun lo hi h1 => ⟨trivial, fun lo1 hi1 h2 => ?_⟩⟩
  obtain ⟨e1, e2, e3⟩ := ap_same h1 h2
  rw [e1, e2, e3, show ∀ x y : Int, (!(x == x && (y == y && true))) = false from fun x y => by simp, bcase_false, show ∀ x : Int, (x != x) = false from fun x => by simp, bcase_false]
  refine ⟨trivial, trivial, ?_⟩
  by_cases v : ArcV a b
  · rw [decide_eq_true v, Bool.not_true, bcase_false]
    refine ⟨trivial, ?_⟩
    by_cases r : InA a b
    · rw [decide_eq_true r, Bool.not_true, bcase_false]
      refine ⟨trivial, ?_⟩
      by_cases w : Wth t p
      · have ok : okT a b t p := ⟨⟨v, r⟩, w⟩
        rw [decide_eq_true w, Bool.not_true, bcase_false, (at_zero a b t p).mpr ok, gate_t ok, gate_t ok, show ((0 : Int) == 0) = true from rfl, bcase_true]
        refine ⟨ok, ?_⟩
        rw [show ∀ x y : Int, (x == x && (y == y && true)) = true from fun x y => by simp]
      · have ok : ¬ okT a b t p := fun k => w k.2
        have e : atE a b t p = 2 := (pick_t v).trans (pick_f fun k => w k.2)
        rw [decide_eq_false w, Bool.not_false, bcase_true, e, gate_f ok, gate_f ok]
        rfl
    · have ok : ¬ okT a b t p := fun k => r k.1.2
      have e : atE a b t p = 2 := (pick_t v).trans (pick_f fun k => r k.1)
      rw [decide_eq_false r, Bool.not_false, bcase_true, e, gate_f ok, gate_f ok]
      rfl
  · have ok : ¬ okT a b t p := fun k => v k.1.1
    have e : atE a b t p = 1 := pick_f v
    rw [decide_eq_false v, Bool.not_false, bcase_true, e, gate_f ok, gate_f ok]
    rfl
end Go.Proofs.YtikbpleaaaeibaaGreat
