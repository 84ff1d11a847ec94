/- TopTangents: the law, out of its parts. -/
import Derived.Test.YtjdcicjhpegphaaGreatLwV
namespace Go.Proofs.YtjdcicjhpegphaaGreat
open Go Go.Abs Go.RowKit Go.Sine
set_option linter.unusedVariables false
set_option linter.unusedSimpArgs false
theorem tu_id {z z' : Int} (h0 : 0 ≤ z) (h1 : z < 21600000) (h : z' - z < 21600000) : tuL z z' = z ∧ tuH z z' = z' := by
  unfold tuL tuH
  rw [if_neg (by omega), if_neg (by omega)]
  omega
/-- The circle that Of answers is fit for Tangent. -/
theorem of_tang {o o' g g' d d' p q : Int} (h : OfA o o' g g' d d') (k : NearV p q) : TgOk d d' (cLo g g') (cHi g g') (5400000 - o') (5400000 - o) p q := by
  obtain ⟨⟨h1, h2, h3⟩, h4⟩ := h
  unfold ArcV at h1 h2
  obtain ⟨r1, r2, r3, r4, r5⟩ := lon_range (a := -g') (b := -g) (by omega)
  unfold OfR at h4
  unfold NearV at k
  refine ⟨by unfold PtV; omega, ⟨h3, r5, by unfold ArcV; omega, by omega, by omega⟩, r1, r2, r3, r4⟩
variable {Φ : World → Prop} (hst : ∀ w w', Φ w → Below w.heap.size w w' → Φ w')
include hst
theorem s_Tt (hm : MeetsAll) (hw : Ans Tryz.prog Φ 5 [] (.bool true)) : Sound Tryz.prog Φ ΓTt :=
  Sound.cons (by kernel_rfl) (fun args p v h hp => by unfold sWayAw at h; split at h <;> cases h; exact hw)
  (Sound.qcons (by kernel_rfl) (fun args p Q h hp => by unfold qOf at h; split at h <;> cases h; exact fun K hK => ⟨_, c_ciof hst _ _ _ _ _ _ _ _ _ _, hK _ _ _ _ _ _ _ ⟨rfl, rfl, rfl, rfl, rfl, rfl, rfl⟩⟩)
  (Sound.cons (by kernel_rfl) (fun args p v h hp => by unfold sNearV at h; split at h <;> cases h; exact c_r37near hst _ _)
  (Sound.cons (by kernel_rfl) (fun args p v h hp => by unfold sTang at h; split at h <;> cases h; exact c_citangent hst hm hp)
  (Sound.cons (by kernel_rfl) (fun args p v h hp => by unfold sWayAt at h; split at h <;> cases h; exact c_wayat hst _)
  (Sound.cons (by kernel_rfl) (fun args p v h hp => by unfold sLiSub at h; split at h <;> cases h; exact c_r5sub hst _ _ _ _)
  (Sound.cons (by kernel_rfl) (fun args p v h hp => by unfold sSolve at h; split at h <;> cases h; exact c_cssolve hst hm hp)
  (Sound.qcons (by kernel_rfl) (fun args p Q h hp => by unfold qLo at h; split at h <;> cases h; exact fun K hK => ⟨_, c_liof hst hp, hK _ _ _ _ _ _ _ ⟨rfl, rfl, rfl, rfl, rfl, rfl, rfl⟩⟩)
  (Sound.cons (by kernel_rfl) (fun args p v h hp => by unfold sLinV at h; split at h <;> cases h; exact c_livalid hst _ _ _ _ _ _) Sound.nil))))))))
theorem law_tangents (hm : MeetsAll) (hw : Ans Tryz.prog Φ 5 [] (.bool true)) (g g' d d' s s' t t' o o' p q : Int) : Ans Tryz.prog Φ 3 [geo8 g g' d d' s s' t t', wid o o', wid p q] (.bool true) := by
  refine fn_by hst (s_Tt hst hm hw) (vc_toptangents g g' d d' s s' t t' o o' p q _) ?_
  refine ⟨trivial, trivial, fun a b c e r sr x hO => bcase_iff.mpr ⟨fun q1 => bcase_iff.mpr ⟨fun q2 => rfl, fun q2 => ?_⟩, fun q1 => ⟨trivial, bcase_iff.mpr ⟨fun q3 => rfl, fun q3 => ?_⟩⟩⟩⟩
  · have ex := hO.ex
    unfold ofE at ex
    have : x = 2 := by
      simp only [bne_iff_ne, beq_eq_false_iff_ne, ne_eq] at q1 q2
      split at ex
      · split at ex <;> omega
      · omega
    rw [this]
    rfl
  · have x0 : x = 0 := by simpa using q1
    have hA : OfA o o' g g' d d' := by
      have ex := hO.ex
      unfold ofE at ex
      split at ex
      · rename_i y
        split at ex
        · rename_i z
          exact ⟨y, z⟩
        · omega
      · omega
    have near : NearV p q := by simpa using q3
    obtain ⟨ea, eb, ec, ed, er, es, _⟩ := hO
    unfold ofC at ea eb ec ed er es
    rw [if_pos hA] at ea eb ec ed er es
    have tg : TgOk a b c e r sr p q := by rw [ea, eb, ec, ed, er, es]; exact of_tang hA near
    have tr := tg.tri
    have hv := h_range _ _ _ _ _ _ (sAl_v tr).2.1 (hm _ _ _ _ _ _ tr)
    have zr := b_range (yAz p p a b (lh q e) (lh q c)).1 (yAz p p a b (lh q e) (lh q c)).2 (xAz p p a b (lh q e) (lh q c)).1 (xAz p p a b (lh q e) (lh q c)).2
    have zr : (0 ≤ zL p p a b (lh q e) (lh q c) ∧ zL p p a b (lh q e) (lh q c) < 21600000) ∧ zL p p a b (lh q e) (lh q c) ≤ zH p p a b (lh q e) (lh q c) ∧ zH p p a b (lh q e) (lh q c) ≤ zL p p a b (lh q e) (lh q c) + 21600000 := zr
    have hR : OfR o o' := hA.2
    have hO1 : ArcV o o' := hA.1.1
    have lo : LatV o o' := by unfold OfR at hR; unfold ArcV at hO1; unfold LatV; omega
    refine ⟨tg, trivial, trivial, trivial, tr, ?_, ?_⟩
    · refine ⟨near, hv, lo, ?_⟩
      show ArcV (zL p p a b (lh q e) (lh q c)) (zH p p a b (lh q e) (lh q c))
      unfold ArcV
      omega
    · show ∀ (a_1 b_1 c_1 d i j x : Int), LoIs (hL p p a b (lh q e) (lh q c)) (hH p p a b (lh q e) (lh q c)) (zL p p a b (lh q e) (lh q c)) (zH p p a b (lh q e) (lh q c)) o o' p q a_1 b_1 c_1 d i j x → _
      unfold LatV at hv lo
      generalize hL p p a b (lh q e) (lh q c) = H at *
      generalize hH p p a b (lh q e) (lh q c) = H' at *
      generalize zL p p a b (lh q e) (lh q c) = Z at *
      generalize zH p p a b (lh q e) (lh q c) = Z' at *
      intro a1 b1 c1 d1 i j y hL1
      obtain ⟨fa, fb, fc, fd, fi, fj, fx⟩ := hL1
      by_cases w : 10800000 ≤ Z' - Z
      · have y21 : y = 21 := by
          rw [fx]
          unfold loE
          rw [if_pos]
          unfold tuL tuH
          split <;> omega
        have bad : ¬ LinV p q Z Z' (5400000 - H' - sr) (5400000 - H - r) := fun h => by
          have := h.2.1.2.2.2
          rw [wrap_in (by omega)] at this
          omega
        rw [y21, decide_eq_false bad]
        exact ⟨trivial, rfl⟩
      · obtain ⟨t1, t2⟩ := tu_id (z := Z) (z' := Z') zr.1.1 zr.1.2 (by omega)
        by_cases v : -600000 ≤ o - H' ∧ o' - H ≤ 600000
        · have y0 : y = 0 := by
            rw [fx]
            unfold loE
            rw [if_neg (by rw [t1, t2]; exact w), if_pos v]
          have l0 : loE H H' Z Z' o o' = 0 := by rw [← fx, y0]
          unfold loX at fa fb fc fd fi fj
          rw [if_pos l0] at fa fb fc fd fi fj
          have good : LinV p q Z Z' (5400000 - H' - sr) (5400000 - H - r) := by
            refine ⟨near, ⟨by unfold ArcV; omega, zr.1.1, zr.1.2, by rw [wrap_in (by omega)]; omega⟩, by unfold ArcV; omega, by omega, by omega⟩
          rw [y0, decide_eq_true good]
          refine bcase_iff.mpr ⟨fun k => absurd k (by decide), fun _ => bcase_iff.mpr ⟨fun _ => ⟨trivial, rfl⟩, fun k => ?_⟩⟩
          exfalso
          have i1 : i = 5400000 - H' - sr := by omega
          have j1 : j = 5400000 - H - r := by omega
          rw [fa, fb, fc, fd, t1, t2, i1, j1] at k
          simp at k
        · have y24 : y = 24 := by
            rw [fx]
            unfold loE
            rw [if_neg (by rw [t1, t2]; exact w), if_neg v]
          have bad : ¬ LinV p q Z Z' (5400000 - H' - sr) (5400000 - H - r) := fun h => by
            have h1 := h.2.2.2.1
            have h2 := h.2.2.2.2
            omega
          rw [y24, decide_eq_false bad]
          exact ⟨trivial, rfl⟩
end Go.Proofs.YtjdcicjhpegphaaGreat
