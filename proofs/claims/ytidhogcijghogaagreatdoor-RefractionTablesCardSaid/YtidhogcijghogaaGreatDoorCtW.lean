/- Contracts of the functions of wide. -/
import Derived.Test.YtidhogcijghogaaGreatDoorVcW
import Derived.Test.YtidhogcijghogaaGreatDoorArith
namespace Go.Proofs.YtidhogcijghogaaGreatDoor
open Go Go.Abs Go.RowKit
set_option linter.unusedVariables false
set_option linter.unusedSimpArgs false
theorem eq_pair {a b c d : Value} (h : a = c) (k : b = d) : Value.tuple #[a, b] = pair c d := by rw [h, k]
theorem eq_wid {a b c d : Int} (h : a = c) (k : b = d) : Value.agg #[.int .i64 a, .int .i64 b] = wid c d := by rw [h, k]
theorem eq_num {k : IntKind} {a b : Int} (h : a = b) : Value.int k a = .int k b := by rw [h]
theorem eq_yes {p : Prop} [Decidable p] (h : p) : Value.bool true = .bool (decide p) := by simp [h]
theorem eq_no {p : Prop} [Decidable p] (h : ¬ p) : Value.bool false = .bool (decide p) := by simp [h]
theorem eq_dec {p q : Prop} [Decidable p] [Decidable q] (h : p ↔ q) : Value.bool (decide p) = .bool (decide q) := by simp [h]
theorem gate_yes {c : Prop} [Decidable c] (h : c) (x : Int) : gate c x = x := if_pos h
theorem gate_no {c : Prop} [Decidable c] (h : ¬ c) (x : Int) : gate c x = 0 := if_neg h
theorem pick_yes {c : Prop} [Decidable c] (h : c) (x y : Int) : pick c x y = x := if_pos h
theorem pick_no {c : Prop} [Decidable c] (h : ¬ c) (x y : Int) : pick c x y = y := if_neg h
theorem eq_siz {a b c d : Int} {m n : Bool} (h : a = c) (k : b = d) (l : m = n) : Value.agg #[.int .u64 a, .int .u64 b, .bool m] = siz c d n := by rw [h, k, l]
theorem sval_eq {t : Int} (h : 0 ≤ t) (n : Bool) : sval (t / 18446744073709551616) (t % 18446744073709551616) n = if n = true then -t else t := by
  unfold sval
  cases n <;> simp only [Bool.false_eq_true, if_false, if_true] <;> omega
theorem wleaf {x y : Int} (h : x = y) : Value.tuple #[.agg #[.int .i64 (gate (F120 x) (hiO x)), .int .i64 (gate (F120 x) (loO x))], .int .i64 (pick (F120 x) 0 5)] = wAns y := by
  subst h; rfl
theorem absI_cases (a : Int) : (a < 0 ∧ absI a = -a) ∨ (0 ≤ a ∧ absI a = a) := by unfold absI; split <;> omega
variable {Φ : World → Prop} (hst : ∀ w w', Φ w → Below w.heap.size w w' → Φ w')
include hst

theorem c_wvalid (a b : Int) : Ans Tryz.prog Φ 97 [wid a b] (.bool (decide (WV a b))) := by
  refine fn_by hst Sound.nil (vc_wvalid a b _) ?_
  simp only [bcase_iff, decide_eq_true_eq, decide_eq_false_iff_not]
  refine ⟨fun h1 => ⟨fun h2 => ⟨fun h3 => eq_dec ?_, fun h3 => eq_no ?_⟩, fun h2 => eq_no ?_⟩, fun h1 => eq_no ?_⟩ <;> unfold WV <;> omega
theorem s_wvalid : Sound Tryz.prog Φ [(97, .v sWValid)] :=
  Sound.cons (by kernel_rfl) (fun args p v h _ => by unfold sWValid at h; split at h <;> cases h; exact c_wvalid hst _ _) Sound.nil
theorem c_wabs (n : Int) (hn : I64 n) : Ans Tryz.prog Φ 81 [num n] (.int .u64 (absI n)) := by
  refine fn_by hst Sound.nil (vc_wabs n _) ?_
  unfold I64 at hn
  have hw : ∀ x : Int, IntKind.u64.wrap x = x % 18446744073709551616 := fun x => by
    unfold IntKind.wrap
    rfl
  simp only [bcase_iff, decide_eq_true_eq, decide_eq_false_iff_not, hw]
  unfold absI
  refine ⟨fun h => eq_num ?_, fun h => eq_num ?_⟩
  · rw [if_pos h]; omega
  · rw [if_neg h]; omega
theorem c_wfit (a b : Int) (ha : Small a) (hb : Small b) : Ans Tryz.prog Φ 96 [num a, num b] (wAns (val a b)) := by
  refine fn_by hst (s_wvalid hst) (vc_wfit a b _) ?_
  unfold Small at ha hb
  have h1 : IntKind.i64.wrap (a + b.fdiv (2 ^ 60)) = hiO (val a b) := by
    rw [fdiv60, wrap_in (by omega)]
    unfold hiO val; omega
  have h2 : andI .i64 b 1152921504606846975 = loO (val a b) := by
    rw [and60]; unfold loO val; omega
  rw [h1, h2]
  have h3 : WV (hiO (val a b)) (loO (val a b)) ↔ F120 (val a b) := by unfold WV F120 hiO loO; omega
  refine ⟨trivial, ?_⟩
  simp only [bcase_iff, Bool.not_eq_true', Bool.not_eq_false', decide_eq_true_eq, decide_eq_false_iff_not, h3]
  refine ⟨fun h => eq_pair (eq_wid ?_ ?_) (eq_num ?_), fun h => eq_pair (eq_wid ?_ ?_) (eq_num ?_)⟩
  · rw [gate_no h]
  · rw [gate_no h]
  · rw [pick_no h]
  · rw [gate_yes h]
  · rw [gate_yes h]
  · rw [pick_yes h]
theorem s_wfit : Sound Tryz.prog Φ ΓF :=
  Sound.cons (by kernel_rfl) (fun args p v h hp => by unfold sWFit at h; split at h <;> cases h; exact c_wfit hst _ _ hp.1 hp.2) (s_wvalid hst)
theorem c_wsizeof (a b : Int) (h : WV a b) : Ans Tryz.prog Φ 98 [wid a b] (siz (absI (val a b) / 18446744073709551616) (absI (val a b) % 18446744073709551616) (decide (val a b < 0))) := by
  refine fn_by hst Sound.nil (vc_wsizeof a b _) ?_
  unfold WV at h
  have f4 : ∀ x : Int, x.fdiv (2 ^ 4) = x / 16 := fun x => by
    rw [show ((2 : Int) ^ 4) = 16 from by decide]
    exact Int.fdiv_eq_ediv_of_nonneg _ (by decide)
  simp only [bcase_iff, decide_eq_true_eq, decide_eq_false_iff_not]
  refine ⟨fun h1 => eq_siz ?_ ?_ ?_, fun h1 => eq_siz ?_ ?_ ?_⟩
  · rw [fdiv60, f4, wrap_in (n := 0 - a) (by omega), wrap_in (n := 0 - b) (by omega), wrap_in (by omega), wrap_u]
    unfold absI val; split <;> omega
  · rw [and60, fdiv60, wrap_in (n := 0 - a) (by omega), wrap_in (n := 0 - b) (by omega), wrap_in (by omega)]
    rw [or60_u (by rw [wrap_u]; omega), wrap_u, wrap_u]
    unfold absI val; split <;> omega
  · have : val a b < 0 ↔ a < 0 := by unfold val; omega
    simp only [this]
  · rw [f4, wrap_u]
    unfold absI val; split <;> omega
  · rw [or60_u (by rw [wrap_u]; omega), wrap_u, wrap_u]
    unfold absI val; split <;> omega
  · have : val a b < 0 ↔ a < 0 := by unfold val; omega
    simp only [this]
theorem c_wwide (a b : Int) (n : Bool) (ha : U64 a) (hb : U64 b) : Ans Tryz.prog Φ 82 [siz a b n] (wAns (sval a b n)) := by
  refine fn_by hst (s_wfit hst) (vc_wwide a b n _) ?_
  unfold U64 at ha hb
  have hbits : IntKind.u64.bits = 64 := rfl
  have bad : ¬ F120 (sval a b n) → Value.tuple #[Value.agg #[.int .i64 0, .int .i64 0], .int .i64 5] = wAns (sval a b n) := fun h =>
    eq_pair (eq_wid (gate_no h _).symm (gate_no h _).symm) (eq_num (pick_no h _ _).symm)
  by_cases h1 : a > 72057594037927936
  · rw [decide_eq_true h1]
    refine bad ?_
    unfold F120 sval; split <;> omega
  rw [decide_eq_false h1]
  have hor : orI .u64 (IntKind.u64.wrap (a * 2 ^ 4)) (b / 1152921504606846976) = a * 16 + b / 1152921504606846976 := by
    rw [or4_u (by omega)]; omega
  simp only [hbits, fdiv60, and60u, hor]
  have w1 : IntKind.i64.wrap (a * 16 + b / 1152921504606846976) = a * 16 + b / 1152921504606846976 := wrap_in (by omega)
  have w2 : IntKind.i64.wrap (b % 1152921504606846976) = b % 1152921504606846976 := wrap_in (by omega)
  have w3 : IntKind.i64.wrap (0 - (a * 16 + b / 1152921504606846976)) = 0 - (a * 16 + b / 1152921504606846976) := wrap_in (by omega)
  have w4 : IntKind.i64.wrap (0 - b % 1152921504606846976) = 0 - b % 1152921504606846976 := wrap_in (by omega)
  simp only [w1, w2, w3, w4]
  have s1 : Small (a * 16 + b / 1152921504606846976) := by unfold Small; omega
  have s2 : Small (b % 1152921504606846976) := by unfold Small; omega
  have s3 : Small (0 - (a * 16 + b / 1152921504606846976)) := by unfold Small; omega
  have s4 : Small (0 - b % 1152921504606846976) := by unfold Small; omega
  have v1 : val (0 - (a * 16 + b / 1152921504606846976)) (0 - b % 1152921504606846976) = sval a b true := by unfold val sval; simp only [if_true]; omega
  have v2 : val (a * 16 + b / 1152921504606846976) (b % 1152921504606846976) = sval a b false := by unfold val sval; simp only [Bool.false_eq_true, if_false]; omega
  simp only [v1, v2, s1, s2, s3, s4, true_and]
  cases n with
  | true =>
    by_cases h2 : a = 72057594037927936
    · by_cases h3 : b > 0
      · simp only [bcase, beq_iff_eq, h2, h3, beq_self_eq_true, decide_true]
        exact h2 ▸ bad (by unfold F120 sval; simp only [if_true]; omega)
      · simp only [bcase, h2, h3, beq_self_eq_true, decide_false, Bool.not_true]
    · simp only [bcase, beq_eq_false_iff_ne.2 h2]
  | false =>
    by_cases h2 : a = 72057594037927936
    · by_cases h3 : b > 0
      · simp only [bcase, h2, h3, beq_self_eq_true, decide_true]
        exact h2 ▸ bad (by unfold F120 sval; simp only [Bool.false_eq_true, if_false]; omega)
      · simp only [bcase, h2, h3, beq_self_eq_true, decide_false, Bool.not_false]
        exact h2 ▸ bad (by unfold F120 sval; simp only [Bool.false_eq_true, if_false]; omega)
    · simp only [bcase, beq_eq_false_iff_ne.2 h2]
theorem c_mul64 (x y : Int) (hx : U64 x) (hy : U64 y) : Ans Tryz.prog Φ 80 [.int .u64 x, .int .u64 y] (pair (.int .u64 (x * y / 18446744073709551616)) (.int .u64 (x * y % 18446744073709551616))) := by
  refine fn_by hst Sound.nil (vc_mul64 x y _) ?_
  unfold U64 at hx hy
  refine eq_pair (eq_num ?_) (eq_num (wrap_u _))
  simp only [fdiv32, and32u, wrap_u]
  have b1 := half_le (a := x / 4294967296) (b := y / 4294967296) (by omega) (by omega)
  have b2 := half_le (a := x / 4294967296) (b := y % 4294967296) (by omega) (by omega)
  have b3 := half_le (a := x % 4294967296) (b := y / 4294967296) (by omega) (by omega)
  have b4 := half_le (a := x % 4294967296) (b := y % 4294967296) (by omega) (by omega)
  have e := split_mulI (x / 4294967296) (x % 4294967296) (y / 4294967296) (y % 4294967296) 4294967296
  rw [show x / 4294967296 * 4294967296 + x % 4294967296 = x by omega, show y / 4294967296 * 4294967296 + y % 4294967296 = y by omega] at e
  generalize x / 4294967296 * (y / 4294967296) = s at *
  generalize x / 4294967296 * (y % 4294967296) = p at *
  generalize x % 4294967296 * (y / 4294967296) = r at *
  generalize x % 4294967296 * (y % 4294967296) = q at *
  generalize x * y = t at *
  omega
theorem s_prod : Sound Tryz.prog Φ ΓP :=
  Sound.cons (by kernel_rfl) (fun args p v h hp => by unfold sWWide at h; split at h <;> cases h; exact c_wwide hst _ _ _ hp.1 hp.2)
  (Sound.cons (by kernel_rfl) (fun args p v h hp => by unfold sWAbs at h; split at h <;> cases h; exact c_wabs hst _ hp)
  (Sound.cons (by kernel_rfl) (fun args p v h hp => by unfold sMul64 at h; split at h <;> cases h; exact c_mul64 hst _ _ hp.1 hp.2) Sound.nil))
theorem c_wproduct (a b : Int) (ha : I64 a) (hb : I64 b) : Ans Tryz.prog Φ 63 [num a, num b] (wAns (a * b)) := by
  refine fn_by hst (s_prod hst) (vc_wproduct a b _) ?_
  have ha' := ha
  have hb' := hb
  unfold I64 at ha' hb'
  have qa := absI_cases a
  have qb := absI_cases b
  have ua : U64 (absI a) := by unfold U64; omega
  have ub : U64 (absI b) := by unfold U64; omega
  have t0 : 0 ≤ absI a * absI b := Int.mul_nonneg ua.1 ub.1
  have t1 : absI a * absI b ≤ 9223372036854775808 * 9223372036854775808 := Int.mul_le_mul (by omega) (by omega) ub.1 (by decide)
  have u1 : U64 (absI a * absI b / 18446744073709551616) := by unfold U64; omega
  have u2 : U64 (absI a * absI b % 18446744073709551616) := by unfold U64; omega
  refine ⟨ha, hb, ⟨ua, ub⟩, ?_⟩
  simp only [sval_eq t0, u1, u2, and_self, true_and]
  have sgn : (decide (a < 0) = decide (b < 0) → absI a * absI b = a * b) ∧ (decide (a < 0) ≠ decide (b < 0) → absI a * absI b = -(a * b)) := by
    rcases qa with ⟨h1, e1⟩ | ⟨h1, e1⟩ <;> rcases qb with ⟨h2, e2⟩ | ⟨h2, e2⟩ <;> rw [e1, e2]
    · exact ⟨fun _ => by grind, fun q => absurd (by rw [decide_eq_true h1, decide_eq_true h2]) q⟩
    · exact ⟨fun q => absurd q (by rw [decide_eq_true h1, decide_eq_false (by omega)]; simp), fun _ => by grind⟩
    · exact ⟨fun q => absurd q (by rw [decide_eq_false (by omega), decide_eq_true h2]; simp), fun _ => by grind⟩
    · exact ⟨fun _ => rfl, fun q => absurd (by rw [decide_eq_false (by omega), decide_eq_false (by omega)]) q⟩
  have hz : (a = 0 ∨ b = 0) → absI a * absI b = 0 ∧ a * b = 0 := by
    rintro (rfl | rfl)
    · exact ⟨by rw [show absI 0 = 0 from rfl, Int.zero_mul], Int.zero_mul _⟩
    · exact ⟨by rw [show absI 0 = 0 from rfl, Int.mul_zero], Int.mul_zero _⟩
  simp only [bcase_iff]
  refine ⟨fun c1 => ⟨fun c2 => wleaf ?_, fun c2 => wleaf ?_⟩, fun c1 => wleaf ?_⟩
  · have d : decide (a < 0) ≠ decide (b < 0) := by intro q; rw [q] at c1; simp at c1
    by_cases hb0 : b = 0
    · have := hz (.inr hb0); rw [this.1, this.2]; simp
    · have := sgn.2 d; rw [this]; simp [hb0]
  · have hz' := hz (.inl (by simpa using c2)); rw [hz'.1, hz'.2]; simp
  · have d : decide (a < 0) = decide (b < 0) := by revert c1; cases decide (a < 0) <;> cases decide (b < 0) <;> simp
    have := sgn.1 d; rw [this]; simp
end Go.Proofs.YtidhogcijghogaaGreatDoor



