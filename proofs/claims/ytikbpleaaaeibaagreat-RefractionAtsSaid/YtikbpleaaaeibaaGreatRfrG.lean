/- Refraction: contracts of the reference's functions. -/
import Derived.Test.YtikbpleaaaeibaaGreatRfrW
import Derived.Test.YtikbpleaaaeibaaGreatRfrC
namespace Go.Proofs.YtikbpleaaaeibaaGreat
open Go Go.Abs Go.RowKit
set_option linter.unusedVariables false
set_option linter.unusedSimpArgs false
variable {Φ : World → Prop} (hst : ∀ w w', Φ w → Below w.heap.size w w' → Φ w')
include hst
theorem c_r5valid5 (a b : Int) : Ans Tryz.prog Φ 10 [wid a b] (.bool (decide (ArcV a b))) := by
  refine fn_by hst Sound.nil (vc_r5valid5 a b _) ?_
  simp only [bcase_iff, true_and, and_true, decide_eq_true_eq, decide_eq_false_iff_not, Bool.not_eq_true', Bool.not_eq_false', Bool.not_true, Bool.not_false, beq_iff_eq, beq_eq_false_iff_ne, bne_iff_ne, ne_eq, bne_eq_false_iff_eq, Decidable.not_not, ge_iff_le, gt_iff_lt, Bool.not_eq_true, Bool.and_eq_true, Bool.or_eq_true, forall_const, imp_false, implies_true, Bool.true_eq_false, Bool.false_eq_true, false_implies, true_implies, Int.not_lt, Int.not_le, Int.zero_sub]
  repeat' (first | intro _ | apply And.intro)
  all_goals (try (repeat' (first | exact rfl | apply eq_pair | apply eq_arc | apply eq_num | apply eq_dec | apply eq_no | apply eq_yes)))
  all_goals (unfold ArcV; omega)
theorem c_r20weather (t p : Int) : Ans Tryz.prog Φ 8 [num t, num p] (.bool (decide (Wth t p))) := by
  refine fn_by hst Sound.nil (vc_r20weather t p _) ?_
  simp only [bcase_iff, true_and, and_true, decide_eq_true_eq, decide_eq_false_iff_not, Bool.not_eq_true', Bool.not_eq_false', Bool.not_true, Bool.not_false, beq_iff_eq, beq_eq_false_iff_ne, bne_iff_ne, ne_eq, bne_eq_false_iff_eq, Decidable.not_not, ge_iff_le, gt_iff_lt, Bool.not_eq_true, Bool.and_eq_true, Bool.or_eq_true, forall_const, imp_false, implies_true, Bool.true_eq_false, Bool.false_eq_true, false_implies, true_implies, Int.not_lt, Int.not_le, Int.zero_sub]
  repeat' (first | intro _ | apply And.intro)
  all_goals (try (repeat' (first | exact rfl | apply eq_pair | apply eq_arc | apply eq_num | apply eq_dec | apply eq_no | apply eq_yes)))
  all_goals (unfold Wth; omega)
theorem c_r20within (a b : Int) : Ans Tryz.prog Φ 11 [wid a b] (.bool (decide (InA a b))) := by
  refine fn_by hst Sound.nil (vc_r20within a b _) ?_
  simp only [bcase_iff, true_and, and_true, decide_eq_true_eq, decide_eq_false_iff_not, Bool.not_eq_true', Bool.not_eq_false', Bool.not_true, Bool.not_false, beq_iff_eq, beq_eq_false_iff_ne, bne_iff_ne, ne_eq, bne_eq_false_iff_eq, Decidable.not_not, ge_iff_le, gt_iff_lt, Bool.not_eq_true, Bool.and_eq_true, Bool.or_eq_true, forall_const, imp_false, implies_true, Bool.true_eq_false, Bool.false_eq_true, false_implies, true_implies, Int.not_lt, Int.not_le, Int.zero_sub]
  repeat' (first | intro _ | apply And.intro)
  all_goals (try (repeat' (first | exact rfl | apply eq_pair | apply eq_arc | apply eq_num | apply eq_dec | apply eq_no | apply eq_yes)))
  all_goals (unfold InA; omega)
theorem c_r4ceil {n d : Int} (hn : I64 n) (hm : I64 (-n)) (hd : 0 < d) : Ans Tryz.prog Φ 32 [num n, num d] (num (-(-n / d))) := by
  have e := ediv_i64 hm hd
  have c := ediv_i64 hn hd
  have k : -9223372036854775807 ≤ -n := by unfold I64 at hn; omega
  have i : -9223372036854775807 ≤ -n / d := by
    apply (fl_iff hd).mpr
    have := Int.mul_le_mul_of_nonneg_left (show 1 ≤ d by omega) (show 0 ≤ (9223372036854775807 : Int) by decide)
    rw [Int.neg_mul]
    omega
  have hm' := hm
  unfold I64 at hm
  obtain ⟨e, _⟩ := e
  unfold I64 at e
  refine fn_by hst (Sound.cons (by kernel_rfl) (fun args p v h hp => by unfold sFl4 at h; split at h <;> cases h; exact c_r4floor hst hp.1 hp.2) Sound.nil) (vc_r4ceil n d _) ?_
  rw [wrap_in (n := 0 - n) (by omega), show 0 - n = -n by omega, wrap_in (n := 0 - -n / d) (by omega)]
  exact ⟨⟨hm', hd⟩, eq_num (by omega)⟩
theorem s_R4 : Sound Tryz.prog Φ ΓRp := Sound.cons (by kernel_rfl) (fun args p v h hp => by unfold sCe4 at h; split at h <;> cases h; exact c_r4ceil hst hp.1 hp.2.1 hp.2.2) Sound.nil
theorem c_r20bent {u : Int} (h : RU u) : Ans Tryz.prog Φ 36 [num u] (wid (bL u) (bH u)) := by
  refine fn_by hst (s_R4 hst) (vc_r20bent u _) ?_
  obtain ⟨r1, r2, r3, r4, r5, r6, r7, r8⟩ := b_range h
  have hu := h
  unfold RU at hu
  have e1 : Int.tdiv 26316000000 (u + 264000) = bq u := Int.tdiv_eq_ediv_of_nonneg (by decide)
  have e2 : -(-26316000000 / (u + 264000)) = cq u := rfl
  rw [wrap_in (n := u + 264000) (by omega), show (u + 264000 == 0) = false from beq_eq_false_iff_ne.mpr (by omega), bcase_false, e1, e2, wrap_in (n := bq u) (by omega), wrap_in (n := u + bq u) (by omega), wrap_in (n := u + cq u) (by omega)]
  exact ⟨⟨⟨by decide, by decide⟩, ⟨by decide, by decide⟩, by omega⟩, rfl⟩
theorem s_Rq20 : Sound Tryz.prog Φ ΓRq20 :=
  Sound.cons (by kernel_rfl) (fun args p v h hp => by unfold sBent at h; split at h <;> cases h; exact c_r20bent hst hp)
  (Sound.cons (by kernel_rfl) (fun args p v h hp => by unfold sR6Cos at h; split at h <;> cases h; exact c_r6Cos hst hp)
  (Sound.cons (by kernel_rfl) (fun args p v h hp => by unfold sR6Sin at h; split at h <;> cases h; exact c_r6Sin hst hp)
  (Sound.cons (by kernel_rfl) (fun args p v h hp => by unfold sQuo at h; split at h <;> cases h; exact c_r4quo hst hp.1 hp.2.1 hp.2.2.1 hp.2.2.2) Sound.nil)))
theorem c_r20one {u : Int} (h : RU u) : Ans Tryz.prog Φ 21 [num u] (wid (oneL u) (oneH u)) := by
  have v := (enc_pos_b h).2.2.2
  refine fn_by hst (s_Rq20 hst) (vc_r20one u _) ⟨h, v, v, quoB h, ?_⟩
  rw [gate_t (one_ok h), gate_t (one_ok h)]
  rfl
theorem c_r20mean {a b : Int} (h : okA a b) : Ans Tryz.prog Φ 12 [wid a b] (wid (oneL b) (oneH a)) :=
  fn_by hst (Sound.cons (by kernel_rfl) (fun args p v h hp => by unfold sOne at h; split at h <;> cases h; exact c_r20one hst hp) Sound.nil) (vc_r20mean a b _) ⟨(ru_of h).2, (ru_of h).1, rfl⟩
theorem c_r20factor {t p : Int} (w : Wth t p) : Ans Tryz.prog Φ 9 [num t, num p] (wid (fN t p) (fD t p)) := by
  have w' := w
  unfold Wth at w'
  obtain ⟨n0, n1, d0, d1⟩ := fac_range w
  obtain ⟨g1, e1, e2, x1, x2, y1, y2⟩ := fac_parts w
  refine fn_by hst Sound.nil (vc_r20factor t p _) ?_
  rw [wrap_in (n := 283 * p) (by omega), wrap_in (n := 2730 + t) (by omega), wrap_in (n := 1010 * (2730 + t)) (by omega)]
  refine ⟨(numF p, denF t), ⟨rfl, rfl, rfl, rfl, rfl, rfl, trivial⟩, ⟨by dsimp only; omega, by dsimp only; omega, by dsimp only; omega, by dsimp only; omega, rfl⟩, ?_⟩
  rintro ⟨x, y⟩ ⟨u1, u2, u3, u4, g⟩
  dsimp only at u1 u2 u3 u4 g ⊢
  obtain ⟨m, rfl⟩ := Int.eq_ofNat_of_zero_le u1
  obtain ⟨n, rfl⟩ := Int.eq_ofNat_of_zero_le u3
  rw [Int.toNat_natCast, Int.toNat_natCast] at g
  refine bcase_iff.mpr ⟨fun q => ?_, fun q => ?_⟩
  · have ne : 0 < n := by have := of_decide_eq_true q; omega
    rw [show ((n : Int) == 0) = false from beq_eq_false_iff_ne.mpr (by omega), bcase_false]
    have e : (m : Int).tmod (n : Int) = ((m % n : Nat) : Int) := rfl
    have lt : m % n < n := Nat.mod_lt _ ne
    refine ⟨((n : Int), (m : Int).tmod (n : Int)), ⟨rfl, rfl, rfl, rfl, rfl, rfl, trivial⟩, ⟨u3, u4, ?_, ?_, ?_⟩, ?_⟩
    · rw [e]; omega
    · rw [e]; omega
    · rw [e, Int.toNat_natCast, Int.toNat_natCast, ← g, Nat.gcd_comm, ← Nat.gcd_rec, Nat.gcd_comm]
    · show ((m : Int).tmod (n : Int)).toNat < (n : Int).toNat
      rw [e, Int.toNat_natCast, Int.toNat_natCast]
      exact lt
  · have z : n = 0 := by have := of_decide_eq_false q; omega
    subst z
    rw [Nat.gcd_zero_right] at g
    have gm : (m : Int) = gF t p := by rw [g]; rfl
    rw [gm, show (gF t p == 0) = false from beq_eq_false_iff_ne.mpr (by omega), bcase_false, bcase_false]
    have t1 : (283 * p).tdiv (gF t p) = fN t p := Int.tdiv_eq_ediv_of_nonneg (by omega)
    have t2 : (1010 * (2730 + t)).tdiv (gF t p) = fD t p := Int.tdiv_eq_ediv_of_nonneg (by omega)
    rw [t1, t2, wrap_in (n := fN t p) (by omega), wrap_in (n := fD t p) (by omega)]
theorem s_RA20 : Sound Tryz.prog Φ ΓRA20 :=
  Sound.cons (by kernel_rfl) (fun args p v h hp => by unfold sMean1 at h; split at h <;> cases h; exact c_r20mean hst hp)
  (Sound.cons (by kernel_rfl) (fun args p v h hp => by unfold sFactorR at h; split at h <;> cases h; exact c_r20factor hst hp)
  (Sound.cons (by kernel_rfl) (fun args p v h hp => by unfold sFl4 at h; split at h <;> cases h; exact c_r4floor hst hp.1 hp.2)
  (Sound.cons (by kernel_rfl) (fun args p v h hp => by unfold sCe4 at h; split at h <;> cases h; exact c_r4ceil hst hp.1 hp.2.1 hp.2.2) Sound.nil)))
theorem c_r20at {a b t p : Int} (h : okT a b t p) : Ans Tryz.prog Φ 16 [wid a b, num t, num p] (wid (atL b t p) (atH a t p)) := by
  obtain ⟨ok, w⟩ := h
  obtain ⟨g1, e1, e2, x1, x2, y1, y2⟩ := fac_parts w
  have q1 := mul_small (one_q20 (ru_of ok).2).1 (n := fN t p) (by omega)
  have q2 := mul_small (one_q20 (ru_of ok).1).2 (n := fN t p) (by omega)
  refine fn_by hst (s_RA20 hst) (vc_r20at a b t p _) ⟨ok, w, ?_⟩
  rw [wrap_in (n := oneL b * fN t p) (by omega), wrap_in (n := oneH a * fN t p) (by omega), fac_div w, fac_ceil w]
  exact ⟨⟨⟨by omega, by omega⟩, by omega⟩, ⟨⟨by omega, by omega⟩, ⟨by omega, by omega⟩, by omega⟩, rfl⟩
theorem c_r20point {u t p : Int} (hu : RU u) (w : Wth t p) : Ans Tryz.prog Φ 31 [num u, num t, num p] (wid (atL u t p) (atH u t p)) :=
  fn_by hst (Sound.cons (by kernel_rfl) (fun args p v h hp => by unfold sAtR at h; split at h <;> cases h; exact c_r20at hst hp) Sound.nil) (vc_r20point u t p _) ⟨⟨⟨⟨by have := hu.1; omega, Int.le_refl _, by have := hu.2; omega⟩, hu.1, hu.2⟩, w⟩, rfl⟩
end Go.Proofs.YtikbpleaaaeibaaGreat
