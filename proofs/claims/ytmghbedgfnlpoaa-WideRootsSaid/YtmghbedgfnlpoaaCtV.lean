/- The reference's functions over wide integers. -/
import Derived.Test.YtmghbedgfnlpoaaCtU
import Derived.Test.YtmghbedgfnlpoaaLawsN
namespace Go.Proofs.Ytmghbedgfnlpoaa
open Go Go.Abs Go.RowKit
set_option linter.unusedVariables false
set_option linter.unusedSimpArgs false
/-- The digits by their own name. -/
def dg (n : Int) : List Int := dig n.natAbs
theorem dvI_drop_le {l : List Int} (h : Dgs l) (i : Nat) : 0 ≤ dvI (l.drop i) ∧ dvI (l.drop i) ≤ dvI l := by
  have h1 := dvI_nonneg (Dgs_drop h i)
  refine ⟨h1, ?_⟩
  rcases Nat.lt_or_ge l.length i with q | q
  · rw [List.drop_eq_nil_of_le (by omega)]; exact dvI_nonneg h
  · have e := dvI_append (l.take i) (l.drop i)
    rw [List.take_append_drop] at e
    have h2 := dvI_nonneg (Dgs_take h i)
    have p : (1 : Int) ≤ 268435456 ^ (l.take i).length := Int.pow_pos (by decide)
    have := Int.mul_le_mul_of_nonneg_right p h1
    omega
theorem sgI_num {l : List Int} (s : Bool) (h : Dgs l) : sgI s (dvI l) = numV l s := by
  unfold sgI numV; rw [nv_cast h]
theorem ord_neg (x y : Int) : ordI x y < 0 ↔ x < y := by
  unfold ordI
  by_cases a : x < y
  · rw [if_pos a]; exact ⟨fun _ => a, fun _ => by decide⟩
  · rw [if_neg a]
    by_cases b : y < x
    · rw [if_pos b]; omega
    · rw [if_neg b]; omega
theorem ord_pos (x y : Int) : ordI x y > 0 ↔ y < x := by
  unfold ordI
  by_cases a : x < y
  · rw [if_pos a]; omega
  · rw [if_neg a]
    by_cases b : y < x
    · rw [if_pos b]; omega
    · rw [if_neg b]; omega
variable {Φ : World → Prop} (hst : ∀ w w', Φ w → Below w.heap.size w w' → Φ w')
include hst
theorem s_ofInt : ∀ ads p rds, sOfIntC dg ads = some (p, rds) → p → RAns Try.prog Φ 16 ads rds := fun ads p rds h hp => by
  unfold sOfIntC at h; split at h <;> cases h; exact c_ofInt hst _ hp
theorem s_Is : Sound Try.prog Φ (ΓIs dg) :=
  Sound.rcons (by kernel_rfl) (s_ofInt hst)
    (Sound.rcons (by kernel_rfl) (fun ads p rds h hp => by unfold sCompareR at h; split at h <;> cases h; exact c_compareR hst _ _ _ _ hp.1 hp.2) Sound.nil)
theorem c_isInt (l : List Int) (s : Bool) (h : CanN l s) : RAns Try.prog Φ 28 [.agg [dR l, .v (.bool s)]] [oneV (num (gate (I64 (numV l s)) (numV l s))), oneV (.bool (decide (I64 (numV l s))))] := by
  refine rfn_by hst (s_Is hst) (vc_isInt dg l s) ?_
  have c1 : CanN (dg (-9223372036854775808)) (decide ((-9223372036854775808 : Int) < 0)) := canN_dig (by decide)
  have c2 : CanN (dg 9223372036854775807) (decide ((9223372036854775807 : Nat) < 0)) := canN_dig (by decide)
  have v1 : numV (dg (-9223372036854775808)) (decide ((-9223372036854775808 : Int) < 0)) = -9223372036854775808 := numV_dig _
  have v2 : numV (dg 9223372036854775807) (decide ((9223372036854775807 : Nat) < 0)) = 9223372036854775807 := numV_dig _
  refine ⟨by unfold I64; omega, tk (tk ⟨⟨h, c1⟩, ?_⟩)⟩
  rw [v1]
  refine bcase_iff.mpr ⟨fun q => ?_, fun q => ⟨by unfold I64; omega, tk (tk ⟨⟨h, c2⟩, ?_⟩)⟩⟩
  · have q := (ord_neg _ _).mp (of_decide_eq_true q)
    have ni : ¬ I64 (numV l s) := fun k => by unfold I64 at k; omega
    rw [gate_no ni, decide_eq_false ni]
    exact ⟨rfl, rfl, trivial⟩
  have q : ¬ numV l s < -9223372036854775808 := fun k => by have := of_decide_eq_false q; exact this ((ord_neg _ _).mpr k)
  rw [v2]
  refine bcase_iff.mpr ⟨fun q2 => ?_, fun q2 => ?_⟩
  · have q2 := (ord_pos _ _).mp (of_decide_eq_true q2)
    have ni : ¬ I64 (numV l s) := fun k => by unfold I64 at k; omega
    rw [gate_no ni, decide_eq_false ni]
    exact ⟨rfl, rfl, trivial⟩
  have q2 : ¬ 9223372036854775807 < numV l s := fun k => by have := of_decide_eq_false q2; exact this ((ord_pos _ _).mpr k)
  have yi : I64 (numV l s) := by unfold I64; omega
  have hd := h.1.dgs
  have ll := h.2.1
  have nvb : nv l ≤ 9223372036854775808 := by rw [← numV_abs (l := l) (s := s)]; omega
  have dvb : dvI l ≤ 9223372036854775808 := by have := nv_cast hd; omega
  have nl := sgI_num s hd
  have yi' : I64 (sgI s (dvI l)) := by rw [nl]; exact yi
  rw [gate_yes yi, decide_eq_true yi, ← nl]
  refine ⟨l.length, ⟨by rw [List.drop_length]; cases s <;> rfl, wrap_in (by omega), rfl, rfl, rfl, rfl, rfl, trivial⟩, Nat.le_refl _, fun i hi => ?_⟩
  have hi : i ≤ l.length := hi
  refine bcase_iff.mpr ⟨fun q3 => ?_, fun q3 => ?_⟩
  · have q3 := of_decide_eq_true q3
    cases i with
    | zero => omega
    | succ i =>
      rw [show (((i + 1 : Nat) : Int) - 1) = (i : Int) by omega, inB_yes (by omega) (by omega), bcase_true, Int.toNat_natCast, blt_yes (by omega), bcase_true]
      have dl := drop_val l i
      have dd := Dgs_getD hd i
      obtain ⟨b1, b2⟩ := dvI_drop_le hd i
      obtain ⟨b3, b4⟩ := dvI_drop_le hd (i + 1)
      generalize l.getD i 0 = d at *
      generalize dvI (l.drop (i + 1)) = x at *
      have w1 : IntKind.i64.wrap ((i : Int) - 1) = (i : Int) - 1 := wrap_in (by omega)
      rw [w1]
      refine bcase_iff.mpr ⟨fun q4 => ?_, fun q4 => ?_⟩
      · subst q4
        refine ⟨i, ⟨?_, rfl, rfl, rfl, rfl, rfl, rfl, trivial⟩, by show i ≤ l.length; omega, by omega⟩
        rw [dl]
        unfold sgI at *
        simp only [if_true] at *
        rw [wrap_in (n := -x * 268435456) (by omega), wrap_in (n := 0 - d) (by omega), wrap_in (by omega)]
        omega
      · subst q4
        refine ⟨i, ⟨?_, rfl, rfl, rfl, rfl, rfl, rfl, trivial⟩, by show i ≤ l.length; omega, by omega⟩
        rw [dl]
        unfold sgI at *
        simp only [Bool.false_eq_true, if_false] at *
        unfold I64 at yi'
        rw [wrap_in (n := x * 268435456) (by omega), wrap_in (by omega)]
        omega
  · have : i = 0 := by have := of_decide_eq_false q3; omega
    subst this
    exact ⟨rfl, rfl, trivial⟩
theorem c_sqrt (l : List Int) (h : Can l) (hv : nv l < 1329227995784915872903807060280344576) : RAns Try.prog Φ 44 [.one (dR l)] [.one (dR (dig (rootI 61 (nv l) 0).toNat))] := by
  refine rfn_by hst (Sound.rcons (by kernel_rfl) (fun ads p rds h hp => by unfold sSum at h; split at h <;> cases h; exact c_sum hst _ _ hp.1 hp.2)
    (Sound.rcons (by kernel_rfl) (fun ads p rds h hp => by unfold sOrder at h; split at h <;> cases h; exact c_order hst _ _ hp.1 hp.2)
    (Sound.rcons (by kernel_rfl) (fun ads p rds h hp => by unfold sOver at h; split at h <;> cases h; exact c_over hst _ _ hp.1 hp.2.1 hp.2.2.1 hp.2.2.2)
    (Sound.rcons (by kernel_rfl) (fun ads p rds h hp => by unfold sTimes at h; split at h <;> cases h; exact c_times hst _ _ hp.1 hp.2) Sound.nil)))) (vc_sqrt l) ?_
  have len : l.length ≤ 5 := by rw [h.1]; exact dig_length 5 (by omega)
  have hp : 268435456 ^ l.length ≤ 268435456 ^ 5 := Nat.pow_le_pow_right (by decide) len
  have pp : 0 < 268435456 ^ l.length := Nat.pow_pos (by decide)
  have lt := nv_lt h (by omega)
  have short : nv l < 268435456 ^ l.length := by
    have q := dig_short (v := nv l)
    rw [← h.1] at q
    exact q
  have hdg : Dgs (l ++ [1]) := Dgs_append.mpr ⟨h.dgs, Dgs_one.mpr ⟨by decide, by decide⟩⟩
  have hnv : nv (l ++ [1]) = nv l + 268435456 ^ l.length := by
    have e := dvI_append l [1]
    have k := nv_cast h.dgs
    have k2 := nv_cast hdg
    have k3 : ((268435456 ^ l.length : Nat) : Int) = 268435456 ^ l.length := Int.natCast_pow _ _
    simp only [dvI] at e
    omega
  have hdig : l ++ [1] = dig (nv l + 268435456 ^ l.length) := by rw [← hnv]; exact (dig_last hdg (by decide)).symm
  refine ⟨by omega, ?_⟩
  rw [Nat.zero_add, cap_yes (by omega), bcase_true, List.take_length, List.nil_append, cap_yes (by omega), bcase_true]
  refine ⟨rfl, (0, nv l + 268435456 ^ l.length), ⟨rfl, rfl, by rw [← hdig]; simp, rfl, rfl, rfl, hdig, trivial⟩, ⟨by show 0 < nv l + _; omega, by show 0 * 0 ≤ nv l; omega, ?_, Nat.le_refl _⟩, fun x hx => ?_⟩
  · show nv l < (nv l + _) * (nv l + _)
    have := Nat.mul_le_mul (show 1 ≤ nv l + 268435456 ^ l.length by omega) (show nv l + 1 ≤ nv l + 268435456 ^ l.length by omega)
    omega
  obtain ⟨lo, hi⟩ := x
  obtain ⟨x1, x2, x3, x4⟩ := hx
  dsimp only at x1 x2 x3 x4 ⊢
  have big : ∀ n, n < 268435456 ^ 40 → Can (dig n) := fun n h => can_dig40 h
  have hh : hi < 268435456 ^ 7 := by omega
  refine tk ⟨⟨big _ (by omega), Can_one (by decide) (by decide)⟩, ?_⟩
  rw [nv_dig]
  refine tk (tk ⟨⟨big _ (by omega), big _ (by omega)⟩, ?_⟩)
  rw [nv_dig, nv_dig]
  refine bcase_iff.mpr ⟨fun q => ?_, fun q => ?_⟩
  · have q := (ord_neg _ _).mp (of_decide_eq_true q)
    refine tk (tk ⟨⟨big _ (by omega), big _ (by omega)⟩, ?_⟩)
    rw [nv_dig, nv_dig]
    refine tk ⟨⟨big _ (by omega), Can_one (by decide) (by decide), by decide, by decide⟩, ?_⟩
    rw [nv_dig]
    have m1 : lo < (lo + hi) / 2 := by omega
    have m2 : (lo + hi) / 2 < hi := by omega
    generalize (lo + hi) / 2 = m at *
    refine tk (tk ⟨⟨big _ (by omega), big _ (by omega)⟩, ?_⟩)
    rw [nv_dig]
    have mm : m * m < 268435456 ^ 7 * 268435456 ^ 7 := Nat.mul_lt_mul_of_lt_of_lt (by omega) (by omega)
    refine tk ⟨Nat.le_refl _, fun y hy => ?_⟩
    have hy := hy.symm
    subst hy
    refine ⟨⟨big _ (by omega), h⟩, ?_⟩
    rw [nv_dig]
    refine bcase_iff.mpr ⟨fun k => ⟨(m, hi), ⟨rfl, rfl, rfl, rfl, rfl, rfl, rfl, trivial⟩, ⟨m2, ?_, x3, x4⟩, by show hi - m < hi - lo; omega⟩, fun k => ⟨(lo, m), ⟨rfl, rfl, rfl, rfl, rfl, rfl, rfl, trivial⟩, ⟨m1, x2, ?_, by show m ≤ _; omega⟩, by show m - lo < hi - lo; omega⟩⟩
    · have k := of_decide_eq_true k
      have := mt (ord_pos ((m * m : Nat) : Int) (nv l)).mpr (by omega)
      show m * m ≤ nv l
      omega
    · have k := of_decide_eq_false k
      have := (ord_pos ((m * m : Nat) : Int) (nv l)).mp (by omega)
      show nv l < m * m
      omega
  · have q : ¬ ((lo + 1 : Nat) : Int) < (hi : Int) := fun k => of_decide_eq_false q ((ord_neg _ _).mpr k)
    have e : hi = lo + 1 := by omega
    subst e
    refine tke ?_ trivial
    congr 1
    obtain ⟨r1, r2, r3⟩ := rootI_spec 61 (nv l) 0 (by omega) (by omega) (by rw [pow61]; omega)
    have x2' : (lo : Int) * (lo : Int) ≤ (nv l : Int) := by exact_mod_cast x2
    have x3' : (nv l : Int) < ((lo : Int) + 1) * ((lo : Int) + 1) := by exact_mod_cast x3
    generalize rootI 61 (nv l) 0 = r at *
    generalize (nv l : Int) = V at *
    rcases Int.lt_trichotomy r lo with c | c | c
    · have := Int.mul_le_mul (show r + 1 ≤ (lo : Int) by omega) (show r + 1 ≤ (lo : Int) by omega) (by omega) (by omega)
      omega
    · omega
    · have := Int.mul_le_mul (show (lo : Int) + 1 ≤ r by omega) (show (lo : Int) + 1 ≤ r by omega) (by omega) (by omega)
      omega
theorem s_Ow : Sound Try.prog Φ (ΓOw dg) :=
  Sound.rcons (by kernel_rfl) (s_ofInt hst)
    (Sound.rcons (by kernel_rfl) (fun ads p rds h hp => by unfold sMul at h; split at h <;> cases h; exact c_mul hst _ _ _ _ hp.1 hp.2.1 hp.2.2)
    (Sound.rcons (by kernel_rfl) (fun ads p rds h hp => by unfold sPlus at h; split at h <;> cases h; exact c_plus hst _ _ _ _ hp.1 hp.2) Sound.nil))
omit hst in
theorem halfN : CanN (dg 1152921504606846976) (decide ((1152921504606846976 : Nat) < 0)) ∧ numV (dg 1152921504606846976) (decide ((1152921504606846976 : Nat) < 0)) = 1152921504606846976 ∧ nv (dg 1152921504606846976) = 1152921504606846976 :=
  ⟨canN_dig (v := 1152921504606846976) (by decide), numV_dig 1152921504606846976, nv_dig _⟩
omit hst in
theorem numV_dg (v : Int) : numV (dg v) (decide (v < 0)) = v := numV_dig v
omit hst in
theorem nv_dg (v : Int) : nv (dg v) = v.natAbs := nv_dig _
theorem c_ofWide (h l : Int) (hh : I64 h) (hl : I64 l) : RAns Try.prog Φ 29 [oneV (wid h l)] [numR (val h l)] := by
  refine rfn_by hst (s_Ow hst) (vc_ofWide dg h l) ?_
  obtain ⟨f1, f2, f3⟩ := halfN
  have a1 : CanN (dg h) (decide (h < 0)) := canN_dig (I64_40 hh)
  have a2 : CanN (dg l) (decide (l < 0)) := canN_dig (I64_40 hl)
  have hb : h.natAbs ≤ 9223372036854775808 := by unfold I64 at hh; omega
  have mb : (h * 1152921504606846976).natAbs < 268435456 ^ 40 := by omega
  refine ⟨hh, by unfold I64; omega, tk (tk ⟨⟨a1, f1, ?_⟩, hl, ?_⟩)⟩
  · unfold PrOk; rw [f3, nv_dg]; omega
  rw [f2, numV_dg]
  refine tk (tk ⟨⟨canN_dig mb, a2⟩, ?_⟩)
  rw [numV_dig, numV_dg]
  exact tke rfl ⟨rfl, trivial⟩
theorem s_Tw : Sound Try.prog Φ (ΓTw dg) :=
  Sound.rcons (by kernel_rfl) (fun ads p rds h hp => by unfold sDown at h; split at h <;> cases h; exact c_down hst _ _ _ _ hp.1 hp.2.1 hp.2.2)
    (Sound.rcons (by kernel_rfl) (fun ads p rds h hp => by unfold sIsInt at h; split at h <;> cases h; exact c_isInt hst _ _ hp)
    (Sound.rcons (by kernel_rfl) (fun ads p rds h hp => by unfold sMinus at h; split at h <;> cases h; exact c_minus hst _ _ hp) (s_Ow hst)))
theorem c_toWide (l : List Int) (s : Bool) (h : CanN l s) : RAns Try.prog Φ 14 [.agg [dR l, .v (.bool s)]] [oneV (wid (gate (F120 (numV l s)) (hiO (numV l s))) (gate (F120 (numV l s)) (loO (numV l s)))), oneV (num (pick (F120 (numV l s)) 0 5))] := by
  refine rfn_by hst (s_Tw hst) (vc_toWide dg l s) ?_
  obtain ⟨f1, f2, f3⟩ := halfN
  have vb := numV_lt h
  refine ⟨by unfold I64; omega, tk (tk ⟨⟨h, f1, by rw [f3]; decide⟩, ?_⟩)⟩
  rw [f2]
  have e1 : (numV l s).fdiv 1152921504606846976 = hiO (numV l s) := Int.fdiv_eq_ediv_of_nonneg _ (by decide)
  rw [e1]
  have hb : (hiO (numV l s)).natAbs ≤ (numV l s).natAbs := by rw [← e1]; exact fdiv_le (by decide)
  have c1 : CanN (dig (hiO (numV l s)).natAbs) (decide (hiO (numV l s) < 0)) := canN_dig (by omega)
  refine tk ⟨c1, ?_⟩
  rw [numV_dig]
  have F : F120 (numV l s) ↔ -1152921504606846976 ≤ hiO (numV l s) ∧ hiO (numV l s) < 1152921504606846976 := by unfold F120 hiO; omega
  have lo : numV l s + -(hiO (numV l s) * 1152921504606846976) = loO (numV l s) := by unfold hiO loO; omega
  have l2 : 0 ≤ loO (numV l s) ∧ loO (numV l s) < 1152921504606846976 := by unfold loO; omega
  refine bcase_iff.mpr ⟨fun q => ?_, fun q => ?_⟩
  · have q : ¬ I64 (hiO (numV l s)) := by simpa using q
    have nf : ¬ F120 (numV l s) := fun k => q (by have := F.mp k; unfold I64; omega)
    rw [gate_no nf, gate_no nf, pick_no nf]
    exact ⟨rfl, rfl, trivial⟩
  have q : I64 (hiO (numV l s)) := by simpa using q
  rw [gate_yes q]
  refine bcase_iff.mpr ⟨fun q2 => ?_, fun q2 => bcase_iff.mpr ⟨fun q3 => ?_, fun q3 => ⟨by unfold I64; omega, tk (tk ⟨⟨c1, f1, ?_⟩, ?_⟩)⟩⟩⟩
  · have nf : ¬ F120 (numV l s) := fun k => by have := F.mp k; have := of_decide_eq_true q2; omega
    rw [gate_no nf, gate_no nf, pick_no nf]
    exact ⟨rfl, rfl, trivial⟩
  · have nf : ¬ F120 (numV l s) := fun k => by have := F.mp k; have := of_decide_eq_true q3; omega
    rw [gate_no nf, gate_no nf, pick_no nf]
    exact ⟨rfl, rfl, trivial⟩
  · unfold PrOk; rw [f3, nv_dig]; have := of_decide_eq_false q2; have := of_decide_eq_false q3; omega
  have yf : F120 (numV l s) := F.mpr (by have := of_decide_eq_false q2; have := of_decide_eq_false q3; omega)
  have hf := F.mp yf
  rw [f2, numV_dig]
  have pb : (hiO (numV l s) * 1152921504606846976).natAbs < 268435456 ^ 40 := by omega
  have c2 := canN_dig pb
  refine tk ⟨c2.1, tk (tk ⟨⟨h, canN_neg c2⟩, ?_⟩)⟩
  rw [numV_neg c2.1, numV_dig, lo]
  refine tk ⟨canN_dig (by omega), ?_⟩
  rw [numV_dig]
  have i2 : I64 (loO (numV l s)) := by unfold I64; omega
  rw [gate_yes i2, gate_yes yf, gate_yes yf, pick_yes yf]
  exact ⟨rfl, rfl, trivial⟩
theorem s_Qr : Sound Try.prog Φ (ΓQr dg) :=
  Sound.rcons (by kernel_rfl) (fun ads p rds h hp => by unfold sOfWide at h; split at h <;> cases h; exact c_ofWide hst _ _ hp.1 hp.2)
    (Sound.rcons (by kernel_rfl) (fun ads p rds h hp => by unfold sUp at h; split at h <;> cases h; exact c_up hst _ _ _ _ hp.1 hp.2.1 hp.2.2)
    (Sound.rcons (by kernel_rfl) (fun ads p rds h hp => by unfold sSqrt at h; split at h <;> cases h; exact c_sqrt hst _ hp.1 hp.2) (s_Tw hst)))
omit hst in
theorem WV_I {h l : Int} (hv : WV h l) : I64 h ∧ I64 l ∧ (val h l).natAbs < 268435456 ^ 40 := by unfold WV at hv; unfold I64 val; omega
theorem c_quotR (h l b : Int) (up : Bool) (hv : WV h l) (hb : I64 b) : RAns Try.prog Φ 20 [oneV (wid h l), oneV (num b), oneV (.bool up)] [oneV (num (gate (okQR (val h l) b up) (quoI (val h l) b up))), oneV (num (pick (b = 0) 16 (pick (I64 (quoI (val h l) b up)) 0 5)))] := by
  refine rfn_by hst (s_Qr hst) (vc_quotR dg h l b up) ?_
  obtain ⟨ih, il, vb⟩ := WV_I hv
  have cv := canN_dig vb
  have cb : CanN (dg b) (decide (b < 0)) := canN_dig (I64_40 hb)
  refine bcase_iff.mpr ⟨fun q => ?_, fun q => ⟨⟨ih, il⟩, hb, tk (tk ?_)⟩⟩
  · have q : b = 0 := by simpa using q
    have no : ¬ okQR (val h l) b up := fun k => k.1 q
    rw [gate_no no, pick_yes q]
    exact ⟨rfl, rfl, trivial⟩
  have q : b ≠ 0 := by simpa using q
  have nz : nv (dg b) ≠ 0 := by rw [nv_dg]; omega
  have fin : ∀ x, x = quoI (val h l) b up → x.natAbs < 268435456 ^ 40 →
      CanN (dig x.natAbs) (decide (x < 0)) ∧
      bcase (!decide (I64 (numV (dig x.natAbs) (decide (x < 0))))) (Value.int IntKind.i64 0 = Value.int IntKind.i64 (gate (okQR (val h l) b up) (quoI (val h l) b up)) ∧ Value.int IntKind.i64 5 = Value.int IntKind.i64 (pick (b = 0) 16 (pick (I64 (quoI (val h l) b up)) 0 5)) ∧ True)
        (Value.int IntKind.i64 (gate (I64 (numV (dig x.natAbs) (decide (x < 0)))) (numV (dig x.natAbs) (decide (x < 0)))) = Value.int IntKind.i64 (gate (okQR (val h l) b up) (quoI (val h l) b up)) ∧
        Value.int IntKind.i64 0 = Value.int IntKind.i64 (pick (b = 0) 16 (pick (I64 (quoI (val h l) b up)) 0 5)) ∧ True) := fun x hx hl => by
    refine ⟨canN_dig hl, ?_⟩
    rw [numV_dig, ← hx, pick_no q]
    refine bcase_iff.mpr ⟨fun k => ?_, fun k => ?_⟩
    · have k : ¬ I64 x := by simpa using k
      have no : ¬ okQR (val h l) b up := fun e => k (by rw [hx]; exact e.2)
      rw [gate_no no, pick_no k]
      exact ⟨rfl, rfl, trivial⟩
    · have k : I64 x := by simpa using k
      have yes : okQR (val h l) b up := ⟨q, by rw [← hx]; exact k⟩
      rw [gate_yes yes, gate_yes k, pick_yes k]
      exact ⟨rfl, rfl, trivial⟩
  have bl := fdiv_le (a := val h l) q
  have bl2 := fdiv_le (a := -val h l) q
  refine ⟨⟨cv, cb, nz⟩, bcase_iff.mpr ⟨fun hu => ⟨⟨ih, il⟩, hb, tk (tk ⟨⟨cv, cb, nz⟩, ?_⟩)⟩, fun hu => ?_⟩⟩
  · subst hu
    rw [numV_dig, numV_dg]
    exact tk (fin _ rfl (by omega))
  · subst hu
    rw [numV_dig, numV_dg]
    exact tk (fin _ rfl (by omega))
theorem c_rootR (h l : Int) (hv : WV h l) : RAns Try.prog Φ 22 [oneV (wid h l)] [oneV (num (gate (0 ≤ h) (rootI 61 (val h l) 0))), oneV (num (pick (0 ≤ h) 0 2))] := by
  refine rfn_by hst (s_Qr hst) (vc_rootR dg h l) ?_
  obtain ⟨ih, il, vb⟩ := WV_I hv
  refine ⟨⟨ih, il⟩, bcase_iff.mpr ⟨fun q => ?_, fun q => tk ?_⟩⟩
  · have q := of_decide_eq_true q
    have no : ¬ 0 ≤ h := by unfold WV at hv; unfold val at q; omega
    rw [gate_no no, pick_no no]
    exact ⟨rfl, rfl, trivial⟩
  have q := of_decide_eq_false q
  have yes : 0 ≤ h := by unfold WV at hv; unfold val at q; omega
  obtain ⟨r, q1, q2, q3, q4, q5⟩ := root_ok hv yes
  have e : (((val h l).natAbs : Nat) : Int) = val h l := by omega
  rw [nv_dig, e, q1, gate_yes yes, pick_yes yes]
  have lt : r.toNat < 268435456 ^ 40 := by omega
  have cr : CanN (dig r.toNat) false := ⟨can_dig40 lt, dig_length 40 lt, fun k => by cases k⟩
  refine ⟨⟨can_dig40 vb, by unfold WV at hv; unfold val; omega⟩, tk ⟨cr, ?_⟩⟩
  have nr : numV (dig r.toNat) false = r := by unfold numV; rw [if_neg (by decide), nv_dig]; omega
  rw [nr, gate_yes (show I64 r by unfold I64; omega)]
  exact ⟨rfl, rfl, trivial⟩
theorem c_validR (h l : Int) : Ans Try.prog Φ 19 [wid h l] (.bool (decide (WV h l))) := by
  refine fn_by hst Sound.nil (vc_validR h l _) ?_
  unfold WV
  refine bcase_iff.mpr ⟨fun a => bcase_iff.mpr ⟨fun b => bcase_iff.mpr ⟨fun c => ?_, fun c => ?_⟩, fun b => ?_⟩, fun a => ?_⟩
  · have a := of_decide_eq_true a; have b := of_decide_eq_true b; have c := of_decide_eq_true c
    congr 1
    exact decide_eq_decide.mpr (by omega)
  · have c := of_decide_eq_false c
    congr 1; symm; exact decide_eq_false (by omega)
  · have c := of_decide_eq_false b
    congr 1; symm; exact decide_eq_false (by omega)
  · have c := of_decide_eq_false a
    congr 1; symm; exact decide_eq_false (by omega)
end Go.Proofs.Ytmghbedgfnlpoaa
