/- Refraction: contracts of the program's functions. -/
import Derived.Test.YtidhogcijghogaaGreatDoorRfrV
import Derived.Test.YtidhogcijghogaaGreatDoorRfrD
namespace Go.Proofs.YtidhogcijghogaaGreatDoor
open Go Go.Abs Go.RowKit
set_option linter.unusedVariables false
set_option linter.unusedSimpArgs false
theorem eq_arc {a b c d : Int} (h : a = c) (k : b = d) : Value.agg #[.int .i64 a, .int .i64 b] = wid c d := by rw [h, k]
theorem eq_bool {a b : Bool} (h : a = b) : Value.bool a = .bool b := by rw [h]
theorem cq_cases {u : Int} (h : RU u) : (26316000000 % (u + 264000) = 0 → cq u = bq u) ∧ (26316000000 % (u + 264000) ≠ 0 → cq u = bq u + 1) := by
  obtain ⟨r1, r2, r3, r4, _⟩ := b_range h
  unfold RU at h
  have hm : 0 < u + 264000 := by omega
  have e := Int.mul_ediv_add_emod 26316000000 (u + 264000)
  have n := Int.emod_nonneg 26316000000 (Int.ne_of_gt hm)
  have c := (ce_iff (A := 26316000000) (z := bq u) hm)
  rw [Int.mul_comm] at e
  unfold bq at *
  refine ⟨fun z => ?_, fun z => ?_⟩
  · have := c.mpr (by omega)
    unfold cq at *
    omega
  · by_cases q : cq u = 26316000000 / (u + 264000)
    · have := c.mp (by unfold cq at q; omega)
      omega
    · omega
theorem enc_pos_b {u : Int} (h : RU u) : 0 < encL (bL u) (bH u) ∧ FixV (encL (bL u) (bH u)) (encH (bL u) (bH u)) ∧ FixV (cL (bL u) (bH u)) (cH (bL u) (bH u)) ∧ ArcV (bL u) (bH u) := by
  obtain ⟨r1, r2, r3, r4, r5, r6, r7, r8⟩ := b_range h
  refine ⟨?_, enc_fix r6, enc_fix (by omega), ⟨by omega, r6, by omega⟩⟩
  rcases side h with k | k
  · rw [(box1 (x := bL u) (y := bH u) (by omega) r6 k).2.2.1]
    have := (one1 h k).2.2.2.2.1
    omega
  · rw [(box2 (x := bL u) (y := bH u) k r6 (by omega)).2.2.1]
    have := (one2 h k).2.2.2.2.2.1
    omega
theorem quoB {u : Int} (h : RU u) : QuoP (cL (bL u) (bH u)) (cH (bL u) (bH u)) (encL (bL u) (bH u)) (encH (bL u) (bH u)) 1000 := by
  obtain ⟨a, b, c, _⟩ := enc_pos_b h
  exact ⟨c, b, a, by unfold Q40; omega⟩
theorem chk_arg {a b : Int} (h : ¬ ArcV a b) : chkE a b = 1 := pick_f h
theorem chk_rng {a b : Int} (v : ArcV a b) (h : ¬ InA a b) : chkE a b = 2 := (pick_t v).trans (pick_f h)
theorem chk_ok {a b : Int} (v : okA a b) : chkE a b = 0 := (pick_t v.1).trans (pick_t v.2)
theorem chk_iff (a b : Int) : (chkE a b = 0 ↔ okA a b) := by
  constructor
  · intro h
    by_cases v : ArcV a b
    · by_cases r : InA a b
      · exact ⟨v, r⟩
      · rw [chk_rng v r] at h; cases h
    · rw [chk_arg v] at h; cases h
  · exact chk_ok
theorem ru_of {a b : Int} (h : okA a b) : RU a ∧ RU b := by
  obtain ⟨v, r⟩ := h
  unfold ArcV at v
  unfold InA at r
  unfold RU
  omega
variable {Φ : World → Prop} (hst : ∀ w w', Φ w → Below w.heap.size w w' → Φ w')
include hst
theorem h_cos {a b : Int} (hp : ArcV a b) : Ans Tryz.prog Φ 26 [wid a b] (pair (wid (cL a b) (cH a b)) (num 0)) := by
  have := c_trCos hst (Φ := Φ) a b
  rw [if_pos hp] at this
  exact this
theorem h_sin {a b : Int} (hp : ArcV a b) : Ans Tryz.prog Φ 27 [wid a b] (pair (wid (encL a b) (encH a b)) (num 0)) := by
  have := c_trSin hst (Φ := Φ) a b
  rw [if_pos hp] at this
  exact this
theorem c_anvalid5 (a b : Int) : Ans Tryz.prog Φ 23 [wid a b] (.bool (decide (ArcV a b))) := by
  refine fn_by hst Sound.nil (vc_anvalid5 a b _) ?_
  simp only [bcase_iff, true_and, and_true, decide_eq_true_eq, decide_eq_false_iff_not, Bool.not_eq_true', Bool.not_eq_false', Bool.not_true, Bool.not_false, beq_iff_eq, beq_eq_false_iff_ne, bne_iff_ne, ne_eq, bne_eq_false_iff_eq, Decidable.not_not, ge_iff_le, gt_iff_lt, Bool.not_eq_true, Bool.and_eq_true, Bool.or_eq_true, forall_const, imp_false, implies_true, Bool.true_eq_false, Bool.false_eq_true, false_implies, true_implies, Int.not_lt, Int.not_le, Int.zero_sub]
  repeat' (first | intro _ | apply And.intro)
  all_goals (try (repeat' (first | exact rfl | apply eq_pair | apply eq_arc | apply eq_num | apply eq_dec | apply eq_no | apply eq_yes)))
  all_goals (unfold ArcV; omega)
theorem c_rfweather (t p : Int) : Ans Tryz.prog Φ 19 [num t, num p] (.bool (decide (Wth t p))) := by
  refine fn_by hst Sound.nil (vc_rfweather t p _) ?_
  simp only [bcase_iff, true_and, and_true, decide_eq_true_eq, decide_eq_false_iff_not, Bool.not_eq_true', Bool.not_eq_false', Bool.not_true, Bool.not_false, beq_iff_eq, beq_eq_false_iff_ne, bne_iff_ne, ne_eq, bne_eq_false_iff_eq, Decidable.not_not, ge_iff_le, gt_iff_lt, Bool.not_eq_true, Bool.and_eq_true, Bool.or_eq_true, forall_const, imp_false, implies_true, Bool.true_eq_false, Bool.false_eq_true, false_implies, true_implies, Int.not_lt, Int.not_le, Int.zero_sub]
  repeat' (first | intro _ | apply And.intro)
  all_goals (try (repeat' (first | exact rfl | apply eq_pair | apply eq_arc | apply eq_num | apply eq_dec | apply eq_no | apply eq_yes)))
  all_goals (unfold Wth; omega)
theorem c_rfcheck (a b : Int) : Ans Tryz.prog Φ 17 [wid a b] (num (chkE a b)) := by
  refine fn_by hst (Sound.cons (by kernel_rfl) (fun args p v h hp => by unfold sVal5 at h; split at h <;> cases h; exact c_anvalid5 hst _ _) Sound.nil) (vc_rfcheck a b _) ?_
  refine ⟨trivial, bcase_iff.mpr ⟨fun p => ?_, fun p => ?_⟩⟩
  · have p : ¬ ArcV a b := by simpa using p
    exact eq_num (chk_arg p).symm
  have v : ArcV a b := by simpa using p
  refine bcase_iff.mpr ⟨fun q => ?_, fun q => bcase_iff.mpr ⟨fun r => ?_, fun r => ?_⟩⟩
  · have q := of_decide_eq_true q
    exact eq_num (chk_rng v fun k => by have := k.1; omega).symm
  · have r := of_decide_eq_true r
    exact eq_num (chk_rng v fun k => by have := k.2; omega).symm
  · have q := of_decide_eq_false q
    have r := of_decide_eq_false r
    exact eq_num (chk_ok ⟨v, by omega, by omega⟩).symm
theorem c_rfbent {u : Int} (h : RU u) : Ans Tryz.prog Φ 25 [num u] (wid (bL u) (bH u)) := by
  refine fn_by hst Sound.nil (vc_rfbent u _) ?_
  obtain ⟨r1, r2, r3, r4, r5, r6, r7, r8⟩ := b_range h
  obtain ⟨c1, c2⟩ := cq_cases h
  have hu := h
  unfold RU at hu
  rw [wrap_in (n := u + 264000) (by omega), show (u + 264000 == 0) = false from beq_eq_false_iff_ne.mpr (by omega), bcase_false, bcase_false]
  have e1 : Int.tdiv 26316000000 (u + 264000) = bq u := Int.tdiv_eq_ediv_of_nonneg (by decide)
  have e2 : Int.tmod 26316000000 (u + 264000) = 26316000000 % (u + 264000) := Int.tmod_eq_emod_of_nonneg (by decide)
  rw [e1, e2, wrap_in (n := bq u) (by omega), wrap_in (n := u + bq u) (by omega), wrap_in (n := u + bq u + 1) (by omega)]
  refine bcase_iff.mpr ⟨fun q => eq_arc rfl ?_, fun q => eq_arc rfl ?_⟩
  · have q : 26316000000 % (u + 264000) ≠ 0 := by simpa using q
    unfold bH; rw [c2 q]; omega
  · have q : 26316000000 % (u + 264000) = 0 := by simpa using q
    unfold bH; rw [c1 q]
theorem s_Ro : Sound Tryz.prog Φ ΓRo :=
  Sound.cons (by kernel_rfl) (fun args p v h hp => by unfold sBent at h; split at h <;> cases h; exact c_rfbent hst hp)
  (Sound.cons (by kernel_rfl) (fun args p v h hp => by unfold sTrCos at h; split at h <;> cases h; exact h_cos hst hp)
  (Sound.cons (by kernel_rfl) (fun args p v h hp => by unfold sTrSin at h; split at h <;> cases h; exact h_sin hst hp)
  (Sound.cons (by kernel_rfl) (fun args p v h hp => by unfold sQuo at h; split at h <;> cases h; exact c_fxquo hst hp.1 hp.2.1 hp.2.2.1 hp.2.2.2) Sound.nil)))
theorem c_rfone {u : Int} (h : RU u) : Ans Tryz.prog Φ 13 [num u] (wid (oneL u) (oneH u)) := by
  have v := (enc_pos_b h).2.2.2
  refine fn_by hst (s_Ro hst) (vc_rfone u _) ⟨h, v, v, quoB h, ?_⟩
  rw [gate_t (one_ok h), gate_t (one_ok h)]
  rfl
theorem c_rfmean {a b : Int} (h : okA a b) : Ans Tryz.prog Φ 18 [wid a b] (wid (oneL b) (oneH a)) :=
  fn_by hst (Sound.cons (by kernel_rfl) (fun args p v h hp => by unfold sOne at h; split at h <;> cases h; exact c_rfone hst hp) Sound.nil) (vc_rfmean a b _) ⟨(ru_of h).2, (ru_of h).1, rfl⟩
theorem s_RM : Sound Tryz.prog Φ ΓRM :=
  Sound.cons (by kernel_rfl) (fun args p v h hp => by unfold sCheck at h; split at h <;> cases h; exact c_rfcheck hst _ _)
  (Sound.cons (by kernel_rfl) (fun args p v h hp => by unfold sMean1 at h; split at h <;> cases h; exact c_rfmean hst hp) Sound.nil)
theorem c_rfMean (a b : Int) : Ans Tryz.prog Φ 8 [wid a b] (pair (wid (gate (okA a b) (oneL b)) (gate (okA a b) (oneH a))) (num (chkE a b))) := by
  refine fn_by hst (s_RM hst) (vc_rfMean a b _) ⟨trivial, ?_⟩
  by_cases ok : okA a b
  · rw [chk_ok ok, gate_t ok, gate_t ok]
    exact bcase_iff.mpr ⟨fun q => absurd q (by decide), fun _ => ⟨ok, rfl⟩⟩
  · have ne : chkE a b ≠ 0 := fun e => ok ((chk_iff a b).mp e)
    rw [gate_f ok, gate_f ok]
    exact bcase_iff.mpr ⟨fun _ => rfl, fun q => absurd (show chkE a b = 0 by simpa using q) ne⟩
/-! Factors. -/
omit hst in
theorem ediv_small {a d M : Int} (h : -M ≤ a ∧ a ≤ M) (hd : 0 < d) (hM : 0 ≤ M) : -M ≤ a / d ∧ a / d ≤ M := by
  constructor
  · apply (fl_iff hd).mpr
    have := Int.mul_le_mul_of_nonneg_left (show 1 ≤ d by omega) hM
    rw [Int.neg_mul]
    omega
  · by_cases q : a < 0
    · have := ediv_np (x := a) (by omega) hd
      omega
    · have := Int.ediv_le_self d (show 0 ≤ a by omega)
      omega
omit hst in
theorem mul_small {x n : Int} (hx : Q20 x) (hn : 0 ≤ n ∧ n ≤ 4000000) : -4194304000000 ≤ x * n ∧ x * n ≤ 4194304000000 := by
  unfold Q20 at hx
  have a := Int.mul_le_mul_of_nonneg_right hx.1 hn.1
  have b := Int.mul_le_mul_of_nonneg_right hx.2 hn.1
  omega
theorem s_RA : Sound Tryz.prog Φ ΓRA :=
  Sound.cons (by kernel_rfl) (fun args p v h hp => by unfold sCheck at h; split at h <;> cases h; exact c_rfcheck hst _ _)
  (Sound.cons (by kernel_rfl) (fun args p v h hp => by unfold sMean1 at h; split at h <;> cases h; exact c_rfmean hst hp)
  (Sound.cons (by kernel_rfl) (fun args p v h hp => by unfold sWth at h; split at h <;> cases h; exact c_rfweather hst _ _)
  (Sound.nil)))
omit hst in
theorem one_q20 {u : Int} (h : RU u) : Q20 (oneL u) ∧ Q20 (oneH u) := by
  obtain ⟨a, b, c, d⟩ := one_wide h
  unfold Q20
  omega
/-! Fractions. -/
theorem c_ragcd {a b : Int} (ha : U64 a) (hb : U64 b) : Ans Tryz.prog Φ 36 [.int .u64 a, .int .u64 b] (.int .u64 (a.toNat.gcd b.toNat : Nat)) := by
  refine fn_by hst Sound.nil (vc_ragcd a b _) ⟨(a, b), ⟨rfl, rfl, trivial⟩, ⟨ha, hb, rfl⟩, ?_⟩
  rintro ⟨x, y⟩ ⟨u1, u2, g⟩
  dsimp only at u1 u2 g ⊢
  obtain ⟨m, rfl⟩ := Int.eq_ofNat_of_zero_le u1.1
  obtain ⟨n, rfl⟩ := Int.eq_ofNat_of_zero_le u2.1
  rw [Int.toNat_natCast, Int.toNat_natCast] at g
  refine bcase_iff.mpr ⟨fun q => ?_, fun q => ?_⟩
  · have ne : (n : Int) ≠ 0 := by simpa using q
    rw [show ((n : Int) == 0) = false from beq_eq_false_iff_ne.mpr ne, bcase_false]
    have e : (m : Int).tmod (n : Int) = ((m % n : Nat) : Int) := rfl
    have lt : m % n < n := Nat.mod_lt _ (by omega)
    refine ⟨((n : Int), (m : Int).tmod (n : Int)), ⟨rfl, rfl, trivial⟩, ⟨u2, ?_, ?_⟩, ?_⟩
    · rw [e]; unfold U64 at u2 ⊢; omega
    · rw [e, Int.toNat_natCast, Int.toNat_natCast, ← g, Nat.gcd_comm, ← Nat.gcd_rec, Nat.gcd_comm]
    · show ((m : Int).tmod (n : Int)).toNat < (n : Int).toNat
      rw [e, Int.toNat_natCast, Int.toNat_natCast]
      exact lt
  · have z : n = 0 := by have : (n : Int) = 0 := by simpa using q
                         omega
    subst z
    rw [Nat.gcd_zero_right] at g
    rw [g]
theorem c_ramake {a b : Int} (ha : 1 ≤ a ∧ a ≤ 4000000) (hb : 1 ≤ b ∧ b ≤ 4000000) : Ans Tryz.prog Φ 20 [num a, num b] (pair (wid (a / (a.toNat.gcd b.toNat : Nat)) (b / (a.toNat.gcd b.toNat : Nat))) (num 0)) := by
  refine fn_by hst (Sound.cons (by kernel_rfl) (fun args p v h hp => by unfold sGcd at h; split at h <;> cases h; exact c_ragcd hst hp.1 hp.2) Sound.nil) (vc_ramake a b _) ?_
  obtain ⟨g1, e1, e2, x1, x2, y1, y2⟩ := gcd_parts ha.1 hb.1
  rw [show (b == 0) = false from beq_eq_false_iff_ne.mpr (by omega), bcase_false, decide_eq_false (p := a < 0) (by omega), bcase_false, decide_eq_false (p := b < 0) (by omega), bcase_false, wrap_u64 (n := a) (by omega), wrap_u64 (n := b) (by omega)]
  generalize a.toNat.gcd b.toNat = g at *
  have t1 : a.tdiv (g : Int) = a / (g : Int) := Int.tdiv_eq_ediv_of_nonneg (by omega)
  have t2 : b.tdiv (g : Int) = b / (g : Int) := Int.tdiv_eq_ediv_of_nonneg (by omega)
  refine ⟨⟨⟨by omega, by omega⟩, by omega, by omega⟩, ?_⟩
  rw [show ((g : Int) == 0) = false from beq_eq_false_iff_ne.mpr (by omega), bcase_false, bcase_false, t1, t2, wrap_u64 (n := a / (g : Int)) (by omega), wrap_u64 (n := b / (g : Int)) (by omega), decide_eq_false (p := a / (g : Int) > 1073741824) (by omega), bcase_false, decide_eq_false (p := b / (g : Int) > 1073741824) (by omega), bcase_false, show (!(false == false)) = false from rfl, bcase_false, wrap_in (n := a / (g : Int)) (by omega), wrap_in (n := b / (g : Int)) (by omega)]
  try rfl
theorem c_rffactor (t p : Int) : Ans Tryz.prog Φ 9 [num t, num p] (pair (wid (gate (Wth t p) (fN t p)) (gate (Wth t p) (fD t p))) (num (pick (Wth t p) 0 2))) := by
  refine fn_by hst (Sound.cons (by kernel_rfl) (fun args p v h hp => by unfold sWth at h; split at h <;> cases h; exact c_rfweather hst _ _) (Sound.cons (by kernel_rfl) (fun args p v h hp => by unfold sMake at h; split at h <;> cases h; exact c_ramake hst ⟨hp.1, hp.2.1⟩ hp.2.2) Sound.nil)) (vc_rffactor t p _) ⟨trivial, bcase_iff.mpr ⟨fun q => ?_, fun q => ?_⟩⟩
  · have q : ¬ Wth t p := by simpa using q
    rw [gate_f q, gate_f q, pick_f q]
    try rfl
  · have w : Wth t p := by simpa using q
    have w' := w
    unfold Wth at w'
    rw [wrap_in (n := 283 * p) (by omega), wrap_in (n := 2730 + t) (by omega), wrap_in (n := 1010 * (2730 + t)) (by omega), gate_t w, gate_t w, pick_t w]
    exact ⟨⟨by omega, by omega, by omega, by omega⟩, rfl⟩
end Go.Proofs.YtidhogcijghogaaGreatDoor
