/- The sine over an arc, by the program and by the reference: contracts. -/
import Derived.Test.YtidhogcijghogaaGreatDoorTriV
namespace Go.Proofs.YtidhogcijghogaaGreatDoor
open Go Go.Abs Go.RowKit Go.Sine
set_option linter.unusedVariables false
set_option linter.unusedSimpArgs false
theorem tQ_01 {p : Nat} (h : p ≤ 5400000) : 0 ≤ tQ p ∧ tQ p ≤ 1 := by
  unfold tQ
  split
  · exact sn_01 (by omega)
  · exact cs_01 (by omega)
theorem fl_range {m : Int} {T : Rat} (hF : Far T) (h : IsFl m T) (t0 : 0 ≤ T) (t1 : T ≤ 1) : 0 ≤ m ∧ m + 1 ≤ 1073741824 := by
  have f := hF (2 ^ 30)
  rw [Rat.intCast_pow, z2] at f
  obtain ⟨h1, h2⟩ := h
  have a : ((0 : Int) : Rat) < ((m + 1 : Int) : Rat) := by rw [z0, Rat.intCast_add, z1]; grind
  have b : ((m : Int) : Rat) < ((2 ^ 30 : Int) : Rat) := by rw [Rat.intCast_pow, z2]; grind
  have a := Rat.intCast_lt_intCast.mp a
  have b := Rat.intCast_lt_intCast.mp b
  have e : (2 : Int) ^ 30 = 1073741824 := by decide
  rw [e] at b
  omega
theorem sinP_range {p : Int} (h0 : 0 ≤ p) (h1 : p ≤ 5400000) : (0 ≤ sinP p ∧ sinP p ≤ 1073741824) ∧ 0 ≤ upI p ∧ upI p ≤ 1073741824 ∧ (exB p = false → sinP p + 1 ≤ 1073741824) := by
  obtain ⟨p, rfl⟩ := Int.eq_ofNat_of_zero_le h0
  unfold upI
  cases he : exB (p : Int) with
  | true =>
    have : sinP (p : Int) = 0 ∨ sinP (p : Int) = 536870912 ∨ sinP (p : Int) = 1073741824 := by
      unfold exB at he
      simp only [Bool.or_eq_true, beq_iff_eq] at he
      unfold sinP
      rcases he with e | e | e <;> rw [e] <;> simp
    rw [if_pos rfl]
    refine ⟨⟨?_, ?_⟩, ?_, ?_, fun h => by cases h⟩ <;> omega
  | false =>
    obtain ⟨hF, hI⟩ := far_tQ he (by omega)
    have t := tQ_01 (p := p) (by omega)
    have r := fl_range hF hI t.1 t.2
    rw [if_neg (by decide)]
    refine ⟨⟨?_, ?_⟩, ?_, ?_, fun _ => ?_⟩ <;> omega
theorem ends_range (n : Int) : (-1073741824 ≤ loI n ∧ loI n ≤ 1073741824) ∧ -1073741824 ≤ hiE n ∧ hiE n ≤ 1073741824 := by
  obtain ⟨p0, p1⟩ := quart_range n
  obtain ⟨⟨a, b⟩, c, d, _⟩ := sinP_range p0 p1
  unfold loI hiE
  split <;> omega
theorem ends_eq (n : Int) : hiE n = if exN n then loI n else loI n + 1 := by
  unfold exN loI hiE upI
  split <;> split <;> omega
variable {Φ : World → Prop} (hst : ∀ w w', Φ w → Below w.heap.size w w' → Φ w')
include hst
theorem s_E1 : Sound Tryz.prog Φ ΓE1 := Sound.cons (by kernel_rfl) (fun args p v h hp => by unfold sFloor6 at h; split at h <;> cases h; exact c_r6Floor hst hp) Sound.nil
omit hst in
theorem q41 {n : Int} (h : Q41 n) : I64 n := by unfold Q41 at h; unfold I64; omega
theorem c_r6ends {n : Int} (hn : Q41 n) : Ans Tryz.prog Φ 70 [.int .i64 n] (pair (num (loI n)) (num (hiE n))) := by
  refine fn_by hst (s_E1 hst) (vc_r6ends n _) ?_
  have r := ends_range n
  rw [ends_eq n]
  refine ⟨q41 hn, bcase_iff.mpr ⟨fun q => ?_, fun q => ?_⟩⟩
  · rw [q, if_pos rfl]
  · rw [q, if_neg (by decide), wrap_in (by omega)]
omit hst in
theorem tmod_c (n : Int) : (n.tmod 21600000 < 0 ∧ n.tmod 21600000 + 21600000 = n % 21600000) ∨ (¬ n.tmod 21600000 < 0 ∧ n.tmod 21600000 = n % 21600000) := tmod_cases n
theorem c_r6has {a b n : Int} (ha : Q41 a) (hb : Q41 b) (hn : Q41 n) (hab : a ≤ b) : Ans Tryz.prog Φ 71 [wid a b, .int .i64 n] (.bool (hasB a b n)) := by
  refine fn_by hst Sound.nil (vc_r6has a b n _) ?_
  unfold Q41 at *
  rw [wrap_in (n := n - a) (by omega)]
  unfold hasB
  have e : ∀ {x y : Prop} [Decidable x] [Decidable y], (x ↔ y) → Value.bool (decide x) = Value.bool (decide y) := fun h => by rw [decide_eq_decide.mpr h]
  refine bcase_iff.mpr ⟨fun q => ?_, fun q => ?_⟩
  · have q := of_decide_eq_true q
    rcases tmod_c (n - a) with ⟨_, h⟩ | ⟨h, _⟩
    · rw [h, wrap_in (n := (n - a) % 21600000) (by omega), wrap_in (by omega)]
      exact e (by omega)
    · exact absurd q h
  · have q := of_decide_eq_false q
    rcases tmod_c (n - a) with ⟨h, _⟩ | ⟨_, h⟩
    · exact absurd h q
    · rw [h, wrap_in (by omega)]
      exact e (by omega)
theorem s_E2 : Sound Tryz.prog Φ ΓE2 :=
  Sound.cons (by kernel_rfl) (fun args p v h hp => by unfold sEnds at h; split at h <;> cases h; exact c_r6ends hst hp)
  (Sound.cons (by kernel_rfl) (fun args p v h hp => by unfold sHas at h; split at h <;> cases h; exact c_r6has hst hp.1 hp.2.1 hp.2.2.1 hp.2.2.2) Sound.nil)
omit hst in
theorem min_if (x y : Int) : (if y < x then y else x) = min x y := by rw [Int.min_def]; split <;> split <;> omega
omit hst in
theorem max_if (x y : Int) : (if y > x then y else x) = max x y := by rw [Int.max_def]; split <;> split <;> omega
omit hst in
theorem has_back (a b : Int) : hasB a b (-5400000) = hasB a b 16200000 := by
  unfold hasB
  have : (-5400000 - a) % 21600000 = (16200000 - a) % 21600000 := by omega
  rw [this]
omit hst in
theorem enc_tree {a b : Int} {p q : Bool} (hp : hasB a b 5400000 = p) (hq : hasB a b 16200000 = q) :
    (bif p then (bif q then Value.agg #[Value.int IntKind.i64 (-1073741824), Value.int IntKind.i64 1073741824] else Value.agg #[Value.int IntKind.i64 (if loI b < loI a then loI b else loI a), Value.int IntKind.i64 1073741824])
      else (bif q then Value.agg #[Value.int IntKind.i64 (-1073741824), Value.int IntKind.i64 (if hiE b > hiE a then hiE b else hiE a)] else Value.agg #[Value.int IntKind.i64 (if loI b < loI a then loI b else loI a), Value.int IntKind.i64 (if hiE b > hiE a then hiE b else hiE a)])) = wid (encL a b) (encH a b) := by
  unfold encL encH
  rw [hp, hq, min_if, max_if]
  cases p <;> cases q <;> rfl
theorem c_r6sine {a b : Int} (ha : Q41 a) (hb : Q41 b) (hab : a ≤ b) : Ans Tryz.prog Φ 56 [wid a b] (wid (encL a b) (encH a b)) := by
  refine fn_by hst (s_E2 hst) (vc_r6sine a b _) ?_
  have h1 : Q41 5400000 := ⟨by decide, by decide⟩
  have h2 : Q41 (-5400000) := ⟨by decide, by decide⟩
  have T := enc_tree (a := a) (b := b) rfl rfl
  rw [has_back]
  refine ⟨ha, hb, ⟨ha, hb, h1, hab⟩, bcase_iff.mpr ⟨fun p => ⟨⟨ha, hb, h2, hab⟩, bcase_iff.mpr ⟨fun q => ?_, fun q => ?_⟩⟩, fun p => ⟨⟨ha, hb, h2, hab⟩, bcase_iff.mpr ⟨fun q => ?_, fun q => ?_⟩⟩⟩⟩ <;> · rw [p, q] at T; exact T
theorem s_E3 : Sound Tryz.prog Φ ΓE3 := Sound.cons (by kernel_rfl) (fun args p v h hp => by unfold sEnc at h; split at h <;> cases h; exact c_r6sine hst hp.1 hp.2.1 hp.2.2) Sound.nil
theorem c_r6Sin {a b : Int} (h : ArcV a b) : Ans Tryz.prog Φ 33 [wid a b] (wid (encL a b) (encH a b)) := by
  refine fn_by hst (s_E3 hst) (vc_r6Sin a b _) ?_
  unfold ArcV at h
  exact ⟨⟨by unfold Q41; omega, by unfold Q41; omega, h.2.1⟩, rfl⟩
theorem c_r6Cos {a b : Int} (h : ArcV a b) : Ans Tryz.prog Φ 32 [wid a b] (wid (encL (a + 5400000) (b + 5400000)) (encH (a + 5400000) (b + 5400000))) := by
  refine fn_by hst (s_E3 hst) (vc_r6Cos a b _) ?_
  unfold ArcV at h
  rw [wrap_in (n := a + 5400000) (by omega), wrap_in (n := b + 5400000) (by omega)]
  exact ⟨⟨by unfold Q41; omega, by unfold Q41; omega, by omega⟩, rfl⟩
/-! The program's. -/
theorem c_trturned {n : Int} (hn : I64 n) : Ans Tryz.prog Φ 78 [.int .i64 n] (num (mI n)) := by
  refine fn_by hst Sound.nil (vc_trturned n _) ?_
  have m0 : 0 ≤ mI n ∧ mI n < 21600000 := by unfold mI; omega
  refine bcase_iff.mpr ⟨fun q => ?_, fun q => ?_⟩
  · have q := of_decide_eq_true q
    rcases tmod_cases n with ⟨_, e⟩ | ⟨h, _⟩
    · rw [e, wrap_in (by omega)]
    · exact absurd q h
  · have q := of_decide_eq_false q
    rcases tmod_cases n with ⟨h, _⟩ | ⟨_, e⟩
    · exact absurd h q
    · rw [e]
theorem s_E4 : Sound Tryz.prog Φ ΓE4 :=
  Sound.cons (by kernel_rfl) (fun args p v h hp => by unfold sTurned at h; split at h <;> cases h; exact c_trturned hst hp)
  (Sound.cons (by kernel_rfl) (fun args p v h hp => by unfold sSinP at h; split at h <;> cases h; exact c_trsine hst _ hp.1 hp.2) Sound.nil)
omit hst in
/-- The end of bounds, for an arc of the first quarter. -/
theorem bounds_end {n p : Int} (hp : quartI n = p) (h0 : 0 ≤ p) (h1 : p ≤ 5400000) : bcase (!exB p)
    (bcase (decide (mI n > 10800000)) (Value.tuple #[Value.int IntKind.i64 (IntKind.i64.wrap (0 - IntKind.i64.wrap (sinP p + 1))), Value.int IntKind.i64 (IntKind.i64.wrap (0 - sinP p))] = pair (num (loI n)) (num (hiE n)))
      (Value.tuple #[Value.int IntKind.i64 (sinP p), Value.int IntKind.i64 (IntKind.i64.wrap (sinP p + 1))] = pair (num (loI n)) (num (hiE n))))
    (bcase (decide (mI n > 10800000)) (Value.tuple #[Value.int IntKind.i64 (IntKind.i64.wrap (0 - sinP p)), Value.int IntKind.i64 (IntKind.i64.wrap (0 - sinP p))] = pair (num (loI n)) (num (hiE n)))
      (Value.tuple #[Value.int IntKind.i64 (sinP p), Value.int IntKind.i64 (sinP p)] = pair (num (loI n)) (num (hiE n)))) := by
  obtain ⟨⟨a, b⟩, c, d, f⟩ := sinP_range h0 h1
  unfold loI hiE southB
  rw [hp]
  cases he : exB p with
  | true =>
    have hu : upI p = sinP p := by unfold upI; rw [he]; rfl
    rw [Bool.not_true, bcase_false, hu]
    refine bcase_iff.mpr ⟨fun q => ?_, fun q => ?_⟩
    · rw [show decide (10800000 < mI n) = true from q, if_pos rfl, wrap_in (by omega), Int.zero_sub]
    · rw [show decide (10800000 < mI n) = false from q]
      rfl
  | false =>
    have f := f he
    have hu : upI p = sinP p + 1 := by unfold upI; rw [he]; rfl
    rw [Bool.not_false, bcase_true, hu]
    refine bcase_iff.mpr ⟨fun q => ?_, fun q => ?_⟩
    · rw [show decide (10800000 < mI n) = true from q, if_pos rfl, if_pos rfl, wrap_in (n := sinP p + 1) (by omega), wrap_in (by omega), wrap_in (by omega), Int.zero_sub, Int.zero_sub]
    · rw [show decide (10800000 < mI n) = false from q, wrap_in (by omega)]
      rfl
theorem c_trbounds {n : Int} (hn : Q41 n) : Ans Tryz.prog Φ 60 [.int .i64 n] (pair (num (loI n)) (num (hiE n))) := by
  refine fn_by hst (s_E4 hst) (vc_trbounds n _) ?_
  have m0 : 0 ≤ mI n ∧ mI n < 21600000 := by unfold mI; omega
  refine ⟨q41 hn, bcase_iff.mpr ⟨fun q => ?_, fun q => ?_⟩⟩
  · have q := of_decide_eq_true q
    rw [wrap_in (n := mI n - 10800000) (by omega), wrap_in (n := 10800000 - (mI n - 10800000)) (by omega)]
    refine bcase_iff.mpr ⟨fun r => ?_, fun r => ?_⟩
    · have r := of_decide_eq_true r
      exact ⟨⟨by omega, by omega⟩, bounds_end (by unfold quartI; rw [if_pos (by omega), if_pos (by omega)]; omega) (by omega) (by omega)⟩
    · have r := of_decide_eq_false r
      exact ⟨⟨by omega, by omega⟩, bounds_end (by unfold quartI; rw [if_pos (by omega), if_neg (by omega)]) (by omega) (by omega)⟩
  · have q := of_decide_eq_false q
    refine bcase_iff.mpr ⟨fun r => ?_, fun r => ?_⟩
    · have r := of_decide_eq_true r
      rw [wrap_in (n := 10800000 - mI n) (by omega)]
      exact ⟨⟨by omega, by omega⟩, bounds_end (by unfold quartI; rw [if_neg (by omega), if_pos (by omega)]) (by omega) (by omega)⟩
    · have r := of_decide_eq_false r
      exact ⟨⟨by omega, by omega⟩, bounds_end (by unfold quartI; rw [if_neg (by omega), if_neg (by omega)]) (by omega) (by omega)⟩
theorem c_trmeets {a b n : Int} (ha : Q41 a) (hb : Q41 b) (hn : Q41 n) (hab : a ≤ b) : Ans Tryz.prog Φ 61 [wid a b, .int .i64 n] (.bool (hasB a b n)) := by
  refine fn_by hst (s_E4 hst) (vc_trmeets a b n _) ?_
  unfold Q41 at *
  rw [wrap_in (n := n - a) (by omega), wrap_in (n := b - a) (by omega)]
  exact ⟨by unfold I64; omega, rfl⟩
theorem s_E5 : Sound Tryz.prog Φ ΓE5 :=
  Sound.cons (by kernel_rfl) (fun args p v h hp => by unfold sEnds at h; split at h <;> cases h; exact c_trbounds hst hp)
  (Sound.cons (by kernel_rfl) (fun args p v h hp => by unfold sHas at h; split at h <;> cases h; exact c_trmeets hst hp.1 hp.2.1 hp.2.2.1 hp.2.2.2) Sound.nil)
theorem c_trenc {a b : Int} (ha : Q41 a) (hb : Q41 b) (hab : a ≤ b) : Ans Tryz.prog Φ 43 [wid a b] (wid (encL a b) (encH a b)) := by
  refine fn_by hst (s_E5 hst) (vc_trenc a b _) ?_
  have h1 : Q41 5400000 := ⟨by decide, by decide⟩
  have h2 : Q41 16200000 := ⟨by decide, by decide⟩
  have T := enc_tree (a := a) (b := b) rfl rfl
  refine ⟨ha, hb, ⟨ha, hb, h1, hab⟩, bcase_iff.mpr ⟨fun p => ⟨⟨ha, hb, h2, hab⟩, bcase_iff.mpr ⟨fun q => ?_, fun q => ?_⟩⟩, fun p => ⟨⟨ha, hb, h2, hab⟩, bcase_iff.mpr ⟨fun q => ?_, fun q => ?_⟩⟩⟩⟩ <;> · rw [p, q] at T; exact T
theorem c_trfurther {a b : Int} (ha : Q41 a) (hb : Q41 b) : Ans Tryz.prog Φ 44 [wid a b] (wid (a + 5400000) (b + 5400000)) := by
  refine fn_by hst Sound.nil (vc_trfurther a b _) ?_
  unfold Q41 at *
  rw [wrap_in (n := a + 5400000) (by omega), wrap_in (n := b + 5400000) (by omega)]
theorem c_trvalid (a b : Int) : Ans Tryz.prog Φ 42 [wid a b] (.bool (decide (ArcV a b))) := by
  refine fn_by hst Sound.nil (vc_trvalid a b _) ?_
  unfold ArcV
  refine bcase_iff.mpr ⟨fun p => bcase_iff.mpr ⟨fun q => ?_, fun q => ?_⟩, fun p => ?_⟩
  · have p := of_decide_eq_true p
    have q := of_decide_eq_true q
    exact congrArg Value.bool (decide_eq_decide.mpr ⟨fun h => ⟨p, q, h⟩, fun h => h.2.2⟩)
  · have q := of_decide_eq_false q
    exact congrArg Value.bool (decide_eq_false (fun h => q h.2.1)).symm
  · have p := of_decide_eq_false p
    exact congrArg Value.bool (decide_eq_false (fun h => p h.1)).symm
theorem s_E6 : Sound Tryz.prog Φ ΓE6 :=
  Sound.cons (by kernel_rfl) (fun args p v h hp => by unfold sArcV at h; split at h <;> cases h; exact c_trvalid hst _ _)
  (Sound.cons (by kernel_rfl) (fun args p v h hp => by unfold sEnc at h; split at h <;> cases h; exact c_trenc hst hp.1 hp.2.1 hp.2.2)
  (Sound.cons (by kernel_rfl) (fun args p v h hp => by unfold sFurther at h; split at h <;> cases h; exact c_trfurther hst hp.1 hp.2) Sound.nil))
/-- The program's sine over an arc. -/
theorem c_trSin (a b : Int) : Ans Tryz.prog Φ 27 [wid a b] (if ArcV a b then pair (wid (encL a b) (encH a b)) (num 0) else pair (wid 0 0) (num 1)) := by
  refine fn_by hst (s_E6 hst) (vc_trSin a b _) ?_
  refine ⟨trivial, bcase_iff.mpr ⟨fun q => ?_, fun q => ?_⟩⟩
  · rw [if_neg (by simpa using q)]
  · have h : ArcV a b := by simpa using q
    rw [if_pos h]
    unfold ArcV at h
    exact ⟨⟨by unfold Q41; omega, by unfold Q41; omega, h.2.1⟩, rfl⟩
theorem c_trCos (a b : Int) : Ans Tryz.prog Φ 26 [wid a b] (if ArcV a b then pair (wid (encL (a + 5400000) (b + 5400000)) (encH (a + 5400000) (b + 5400000))) (num 0) else pair (wid 0 0) (num 1)) := by
  refine fn_by hst (s_E6 hst) (vc_trCos a b _) ?_
  refine ⟨trivial, bcase_iff.mpr ⟨fun q => ?_, fun q => ?_⟩⟩
  · rw [if_neg (by simpa using q)]
  · have h : ArcV a b := by simpa using q
    rw [if_pos h]
    unfold ArcV at h
    exact ⟨⟨by unfold Q41; omega, by unfold Q41; omega⟩, ⟨by unfold Q41; omega, by unfold Q41; omega, by omega⟩, rfl⟩
end Go.Proofs.YtidhogcijghogaaGreatDoor
