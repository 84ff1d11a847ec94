/- The laws of wide that are checked without the reference. -/
import Derived.Test.YtmghbedgfnlpoaaVcL
import Derived.Test.YtmghbedgfnlpoaaCtC
namespace Go.Proofs.Ytmghbedgfnlpoaa
open Go Go.Abs Go.RowKit
set_option linter.unusedVariables false
set_option linter.unusedSimpArgs false
theorem F120_WV {v : Int} (h : F120 v) : WV (hiO v) (loO v) := by unfold F120 at h; unfold WV hiO loO; omega
theorem val_O (v : Int) : val (hiO v) (loO v) = v := by unfold val hiO loO; omega
theorem O_val {h l : Int} (hv : WV h l) : hiO (val h l) = h ∧ loO (val h l) = l := by unfold WV at hv; unfold hiO loO val; omega
theorem WV_F120 {h l : Int} (hv : WV h l) : F120 (val h l) := by unfold WV at hv; unfold F120 val; omega
theorem quo_mul {a b : Int} (hb : b ≠ 0) (up : Bool) : quoI (a * b) b up = a := by
  unfold quoI
  cases up
  · simp only [Bool.false_eq_true, if_false]; exact Int.mul_fdiv_cancel a hb
  · simp only [if_true]
    rw [show -(a * b) = (-a) * b by grind, Int.mul_fdiv_cancel _ hb]
    omega
variable {Φ : World → Prop} (hst : ∀ w w', Φ w → Below w.heap.size w w' → Φ w')
include hst
theorem s_A : Sound Try.prog Φ ΓA :=
  Sound.cons (by kernel_rfl) (fun args p v h hp => by unfold sWProduct at h; split at h <;> cases h; exact c_wproduct hst _ _ hp.1 hp.2)
  (Sound.cons (by kernel_rfl) (fun args p v h hp => by unfold sWFloor at h; split at h <;> cases h; exact c_wfloor hst _ _ _ hp)
  (Sound.cons (by kernel_rfl) (fun args p v h hp => by unfold sWCeil at h; split at h <;> cases h; exact c_wceil hst _ _ _ hp)
  (Sound.cons (by kernel_rfl) (fun args p v h hp => by unfold sWOf at h; split at h <;> cases h; exact c_wof hst _ hp)
  (Sound.cons (by kernel_rfl) (fun args p v h _ => by unfold sWRoot at h; split at h <;> cases h; exact c_wroot hst _ _) Sound.nil))))
theorem c_awake : Ans Try.prog Φ 12 [] (.bool true) := by
  refine fn_by hst (s_A hst) (vc_awake _) ?_
  refine ⟨⟨by unfold I64; decide, by unfold I64; decide⟩, by unfold I64; decide, by unfold I64; decide, by unfold I64; decide, by unfold I64; decide, trivial, by unfold I64; decide, ?_⟩
  have : (gate (okR 2097152 0) (rootI 61 (val 2097152 0) 0) == 1554944255987) = true := by decide +kernel
  rw [this]
theorem s_L : Sound Try.prog Φ ΓL :=
  Sound.cons (by kernel_rfl) (fun args p v h _ => by unfold sAwake at h; split at h <;> cases h; exact c_awake hst)
  (Sound.cons (by kernel_rfl) (fun args p v h _ => by unfold sWAdd AA at h; split at h <;> cases h; exact c_wadd hst _ _ _ _)
  (Sound.cons (by kernel_rfl) (fun args p v h _ => by unfold sWSub AA at h; split at h <;> cases h; exact c_wsub hst _ _ _ _)
  (Sound.cons (by kernel_rfl) (fun args p v h _ => by unfold sWCmp AA at h; split at h <;> cases h; exact c_wcmp hst _ _ _ _)
  (Sound.cons (by kernel_rfl) (fun args p v h _ => by unfold sWInt at h; split at h <;> cases h; exact c_wint hst _ _)
  (Sound.cons (by kernel_rfl) (fun args p v h _ => by unfold sWValid at h; split at h <;> cases h; exact c_wvalid hst _ _) (s_A hst))))))
theorem law_factors (a b c : Int) (ha : I64 a) (hb : I64 b) (hc : I64 c) : Ans Try.prog Φ 6 [num a, num b, num c] (.bool true) := by
  refine fn_by hst (s_L hst) (vc_factors a b c _) ?_
  refine ⟨trivial, ?_⟩
  simp only [bcase_iff, decide_eq_true_eq, decide_eq_false_iff_not]
  refine ⟨fun _ => trivial, fun a1 => ⟨fun _ => trivial, fun a2 => ⟨fun _ => trivial, fun b1 => ⟨fun _ => trivial, fun b2 => ⟨fun _ => trivial, fun c1 => ⟨fun _ => trivial, fun c2 => ?_⟩⟩⟩⟩⟩⟩
  have hw : IntKind.i64.wrap (b + c) = b + c := wrap_in (by omega)
  rw [hw]
  have mul : ∀ {x y : Int}, -288230376151711744 ≤ x → x ≤ 288230376151711744 → -576460752303423488 ≤ y → y ≤ 576460752303423488 → F120 (x * y) := fun {x y} h1 h2 h3 h4 => by
    have k : (x * y).natAbs ≤ 288230376151711744 * 576460752303423488 := by
      rw [Int.natAbs_mul]
      exact Nat.mul_le_mul (by omega) (by omega)
    unfold F120
    omega
  have h1 : F120 (a * b) := mul (by omega) (by omega) (by omega) (by omega)
  have h2 : F120 (a * c) := mul (by omega) (by omega) (by omega) (by omega)
  have h3 : F120 (a * (b + c)) := mul (by omega) (by omega) (by omega) (by omega)
  have e : a * b + a * c = a * (b + c) := (Int.mul_add a b c).symm
  have w1 := F120_WV h1
  have w2 := F120_WV h2
  have t1 : two (hiO (a * b)) (loO (a * b)) (hiO (a * c)) (loO (a * c)) := ⟨w1, w2⟩
  have o1 : ok2 (hiO (a * b)) (loO (a * b)) (hiO (a * c)) (loO (a * c)) (a * (b + c)) := ⟨w1, w2, h3⟩
  simp only [gate_yes h1, gate_yes h2, gate_yes h3, pick_yes h1, pick_yes h2, pick_yes h3, val_O, e, pick_yes t1, gate_yes o1, pick_yes w1]
  refine ⟨⟨ha, hb⟩, ⟨ha, hc⟩, ⟨ha, by unfold I64; omega⟩, trivial, fun h => absurd h (by decide), fun _ => ⟨fun h => absurd h (by decide), fun _ => ⟨fun h => absurd h (by decide), fun _ => ⟨fun h => absurd h (by decide), fun _ => ⟨fun h => absurd h (by simp), fun _ => ⟨fun hb0 => ?_, fun hb0 => ⟨hb, hb, ?_⟩⟩⟩⟩⟩⟩⟩
  · have : b = 0 := by simpa using hb0
    subst this
    simp [hiO, loO]
  · have hb0 : b ≠ 0 := by simpa using hb0
    have q1 : I64 (quoI (a * b) b false) := by rw [quo_mul hb0]; exact ha
    have q2 : I64 (quoI (a * b) b true) := by rw [quo_mul hb0]; exact ha
    have k1 : okQ (hiO (a * b)) (loO (a * b)) b false := ⟨w1, hb0, by rw [val_O]; exact q1⟩
    have k2 : okQ (hiO (a * b)) (loO (a * b)) b true := ⟨w1, hb0, by rw [val_O]; exact q2⟩
    simp only [pick_no hb0, pick_yes q1, pick_yes q2, gate_yes k1, gate_yes k2, quo_mul hb0, pick_yes ha]
    simp
omit hst in
theorem root_ok {h l : Int} (hv : WV h l) (h0 : 0 ≤ h) : ∃ r, rootI 61 (val h l) 0 = r ∧ 0 ≤ r ∧ r ≤ 1152921504606846975 ∧ r * r ≤ val h l ∧ val h l < (r + 1) * (r + 1) := by
  have hV : 0 ≤ val h l ∧ val h l < 1329227995784915872903807060280344576 := by unfold WV at hv; unfold val; omega
  obtain ⟨a, b, c⟩ := rootI_spec 61 (val h l) 0 (by omega) (by simpa using hV.1) (by rw [pow61]; omega)
  refine ⟨_, rfl, c, ?_, a, b⟩
  generalize rootI 61 (val h l) 0 = r at *
  rcases Int.lt_or_le r 1152921504606846976 with q | q
  · omega
  · have := Int.mul_le_mul q q (by decide) (by omega)
    omega
omit hst in
theorem sq_root {k r : Int} (hk : 0 ≤ k) (hr : 0 ≤ r) (h1 : r * r ≤ k * k) (h2 : k * k < (r + 1) * (r + 1)) : r = k := by
  rcases Int.lt_trichotomy r k with q | q | q
  · have := Int.mul_le_mul (show r + 1 ≤ k by omega) (show r + 1 ≤ k by omega) (by omega) hk
    omega
  · exact q
  · have := Int.mul_le_mul (show k + 1 ≤ r by omega) (show k + 1 ≤ r by omega) (by omega) hr
    have e : (k + 1) * (k + 1) = k * k + 2 * k + 1 := by grind
    omega
theorem law_squares (h l n : Int) (hh : I64 h) (hl : I64 l) (hn : 0 ≤ n ∧ n ≤ 4294967295) : Ans Try.prog Φ 8 [wid h l, .int .u32 n] (.bool true) := by
  refine fn_by hst (s_L hst) (vc_squares h l n _) ?_
  have e1 : IntKind.i64.wrap n = n := wrap_in (by omega)
  have e27 : (2 : Int) ^ 27 = 134217728 := by decide
  have e2 : IntKind.i64.wrap (n * 134217728) = n * 134217728 := wrap_in (by omega)
  have e3 : IntKind.i64.wrap (n * 134217728 + n) = n * 134217729 := by rw [wrap_in (by omega)]; omega
  simp only [e1, e27, e2, e3]
  have k0 : 0 ≤ n * 134217729 ∧ n * 134217729 ≤ 576460756598390655 := by omega
  generalize n * 134217729 = k at *
  have kk : 0 ≤ k * k ∧ k * k ≤ 576460756598390655 * 576460756598390655 := ⟨Int.mul_nonneg k0.1 k0.1, Int.mul_le_mul k0.2 k0.2 k0.1 (by decide)⟩
  have f1 : F120 (k * k) := by unfold F120; omega
  have w1 := F120_WV f1
  have z1 : 0 ≤ hiO (k * k) := by unfold hiO; omega
  have o1 : okR (hiO (k * k)) (loO (k * k)) := ⟨w1, z1⟩
  have r1 : rootI 61 (k * k) 0 = k := by
    obtain ⟨r, q1, q2, q3, q4, q5⟩ := root_ok w1 z1
    rw [val_O] at q1 q4 q5
    rw [q1]
    exact sq_root k0.1 q2 q4 q5
  simp only [gate_yes f1, pick_yes f1, pick_yes w1, pick_yes z1, gate_yes o1, val_O, r1]
  refine ⟨trivial, ⟨by unfold I64; omega, by unfold I64; omega⟩, trivial, ?_⟩
  simp only [bcase_iff]
  refine ⟨fun q => absurd q (by decide), fun _ => ⟨fun q => absurd q (by decide), fun _ => ⟨fun q => absurd q (by simp), fun _ => ⟨trivial, ?_⟩⟩⟩⟩
  by_cases hv : WV h l
  · by_cases h0 : 0 ≤ h
    · have o2 : okR h l := ⟨hv, h0⟩
      obtain ⟨r, q1, q2, q3, q4, q5⟩ := root_ok hv h0
      have hV := WV_F120 hv
      simp only [pick_yes hv, pick_yes h0, gate_yes o2, q1]
      have rr : 0 ≤ r * r := Int.mul_nonneg q2 q2
      have f2 : F120 (r * r) := by unfold F120 at hV ⊢; omega
      have w2 := F120_WV f2
      have t2 : two (hiO (r * r)) (loO (r * r)) h l := ⟨w2, hv⟩
      have e4 : IntKind.i64.wrap (r + 1) = r + 1 := wrap_in (by omega)
      simp only [gate_yes f2, pick_yes f2, pick_yes t2, gate_yes t2, val_O, e4]
      refine ⟨fun q => absurd q (by decide), fun _ => ⟨⟨by unfold I64; omega, by unfold I64; omega⟩, trivial, fun q => absurd (of_decide_eq_true q) (by omega), fun _ => ⟨fun q => absurd q (by decide), fun _ => ⟨fun q => absurd q (by decide), fun _ => ⟨fun q => ?_, fun _ => ⟨⟨by unfold I64; omega, by unfold I64; omega⟩, ?_⟩⟩⟩⟩⟩⟩
      · have := of_decide_eq_true q
        unfold ordI at this
        split at this
        · omega
        · split at this <;> omega
      · by_cases f3 : F120 ((r + 1) * (r + 1))
        · have w3 := F120_WV f3
          have t3 : two h l (hiO ((r + 1) * (r + 1))) (loO ((r + 1) * (r + 1))) := ⟨hv, w3⟩
          simp only [gate_yes f3, pick_yes f3, pick_yes t3, gate_yes t3, val_O]
          refine ⟨fun q => absurd q (by decide), fun _ => ⟨trivial, fun _ => ?_, fun q => absurd q (by decide)⟩⟩
          have : ordI (val h l) ((r + 1) * (r + 1)) = -1 := by unfold ordI; rw [if_pos q5]
          rw [this]
          simp
        · simp only [pick_no f3]
          refine ⟨fun _ => by simp, fun q => absurd q (by decide)⟩
    · simp only [pick_yes hv, pick_no h0]
      have o2 : ¬ okR h l := fun q => h0 q.2
      simp only [gate_no o2]
      refine ⟨fun _ => ⟨fun _ => ⟨fun q => absurd q (by decide), fun _ => ⟨fun _ => ?_, fun q => absurd q (by decide)⟩⟩, fun q => absurd q (by decide)⟩, fun q => absurd q (by decide)⟩
      have : h < 0 := by omega
      simp [this]
  · simp only [pick_no hv]
    have o2 : ¬ okR h l := fun q => hv q.1
    simp only [gate_no o2]
    refine ⟨fun _ => ⟨fun _ => ⟨fun _ => ⟨trivial, fun _ => trivial, fun q => absurd q (by simp [hv])⟩, fun q => absurd q (by decide)⟩, fun q => absurd q (by decide)⟩, fun q => absurd q (by decide)⟩
end Go.Proofs.Ytmghbedgfnlpoaa
