/- The program's angles in 256 digits, their series, and its sine: contracts. -/
import Derived.Test.YtikbpleaaaeibaaGreatTrgU
namespace Go.Proofs.YtikbpleaaaeibaaGreat
open Go Go.Abs Go.RowKit
set_option linter.unusedVariables false
set_option linter.unusedSimpArgs false
variable {Φ : World → Prop} (hst : ∀ w w', Φ w → Below w.heap.size w w' → Φ w')
include hst
theorem h_trsub : ∀ args p Q, qSubN args = some (p, Q) → p → ∀ K, Q K → ∃ v, Ans Tryz.prog Φ 89 args v ∧ K v := by
  intro args p Q h hp K hK
  unfold qSubN at h
  split at h <;> cases h
  exact ⟨_, c_trsub hst hp.1 hp.2, vNat_is (Int.emod_nonneg _ (by decide)) (Int.emod_lt_of_pos _ (by decide)) hK⟩
theorem h_trmul : ∀ args p Q, qMulN args = some (p, Q) → p → ∀ K, Q K → ∃ v, Ans Tryz.prog Φ 90 args v ∧ K v := by
  intro args p Q h hp K hK
  unfold qMulN at h
  split at h <;> cases h
  have l := mulI_lt (nval_lt hp.1) (nval_lt hp.2)
  exact ⟨_, c_trmulI hst hp.1 hp.2, vNat_is l.1 l.2 hK⟩
theorem h_trdiv : ∀ args p Q, qDivN args = some (p, Q) → p → ∀ K, Q K → ∃ v, Ans Tryz.prog Φ 105 args v ∧ K v := by
  intro args p Q h hp K hK
  unfold qDivN at h
  split at h <;> cases h
  rename_i a b c d t y
  obtain ⟨hA, ht, hy, hlt⟩ := hp
  have l := nval_lt hA
  have y0 : 0 < y := by have := ht.1; omega
  have e1 : 0 ≤ (t * W4 + nval a b c d) / y := Int.ediv_nonneg (by have := Int.mul_nonneg ht.1 (show 0 ≤ W4 by decide); omega) (by omega)
  have e2 : (t * W4 + nval a b c d) / y < W4 := by
    apply Int.ediv_lt_of_lt_mul y0
    have : (t + 1) * W4 ≤ y * W4 := Int.mul_le_mul_of_nonneg_right (by omega) (by decide)
    rw [Int.mul_comm W4]
    rw [Int.add_mul, Int.one_mul] at this
    unfold W4 at *
    omega
  exact ⟨_, c_trdiv hst hA ht hy hlt, vNat_is e1 e2 hK⟩
theorem s_Tr : Sound Tryz.prog Φ ΓTr := Sound.econs (h_add trivial) (Sound.qcons (by kernel_rfl) (h_mul hst) (Sound.qcons (by kernel_rfl) (h_trdiv hst) Sound.nil))
theorem s_Tl : Sound Tryz.prog Φ ΓTl := Sound.qcons (by kernel_rfl) (h_trmul hst) (Sound.qcons (by kernel_rfl) (h_trsub hst) (Sound.qcons (by kernel_rfl) (h_trdiv hst) Sound.nil))
omit hst in
/-- One word of a number, times a word, and the carry. -/
theorem word {x y h l C s d : Int} (hm : MulR x y h l) (h1 : AddR l C 0 s d) (hC : U64 C) : ∃ c, IntKind.u64.wrap (h + d) = c ∧ U64 c ∧ U64 s ∧ x * y + C = c * 18446744073709551616 + s := by
  obtain ⟨a1, a2, a3, a4, a5, a6⟩ := hm
  obtain ⟨b1, b2, b3⟩ := h1
  have b2 := bit_lt b2
  unfold U64 at *
  generalize x * y = p at *
  have e1 : IntKind.u64.wrap (h + d) = h + d := wrap_u64 (by omega)
  exact ⟨h + d, e1, by omega, b1, by omega⟩
omit hst in
theorem radI_lt {n : Int} (h0 : 0 ≤ n) (h1 : n ≤ 2700000) : 0 ≤ radI n ∧ radI n < W4 := by
  unfold radI piI W4
  omega
theorem c_trrad (n : Int) (h0 : 0 ≤ n) (h1 : n ≤ 2700000) : Ans Tryz.prog Φ 88 [.int .i64 n] (vNat (radI n)) := by
  refine fn_by hst (s_Tr hst) (vc_trrad n _) ?_
  have wn : IntKind.u64.wrap n = n := wrap_u64 (by omega)
  rw [wn]
  have un : U64 n := ⟨h0, by omega⟩
  have lit : ∀ k : Int, 0 ≤ k → k < 18446744073709551616 → U64 k := fun k a b => ⟨a, b⟩
  refine ⟨⟨lit _ (by decide) (by decide), un⟩, fun a1 l1 m1 => ⟨⟨m1.2.1, u0, bit0⟩, fun s1 d1 f1 => ⟨⟨lit _ (by decide) (by decide), un⟩, ?_⟩⟩⟩
  obtain ⟨C1, w1, v1, us1, p1⟩ := word m1 f1 u0
  rw [w1]
  refine fun a2 l2 m2 => ⟨⟨m2.2.1, v1, bit0⟩, fun s2 d2 f2 => ⟨⟨lit _ (by decide) (by decide), un⟩, ?_⟩⟩
  obtain ⟨C2, w2, v2, us2, p2⟩ := word m2 f2 v1
  rw [w2]
  refine fun a3 l3 m3 => ⟨⟨m3.2.1, v2, bit0⟩, fun s3 d3 f3 => ⟨⟨lit _ (by decide) (by decide), un⟩, ?_⟩⟩
  obtain ⟨C3, w3, v3, us3, p3⟩ := word m3 f3 v2
  rw [w3]
  refine fun a4 l4 m4 => ⟨⟨m4.2.1, v3, bit0⟩, fun s4 d4 f4 => ?_⟩
  obtain ⟨C4, w4, v4, us4, p4⟩ := word m4 f4 v3
  rw [w4]
  have wt : IntKind.u64.wrap (3 * n) = 3 * n := wrap_u64 (by omega)
  obtain ⟨_, v10⟩ := v1
  obtain ⟨_, v20⟩ := v2
  obtain ⟨_, v30⟩ := v3
  obtain ⟨v41, v40⟩ := v4
  obtain ⟨us11, us10⟩ := us1
  obtain ⟨us21, us20⟩ := us2
  obtain ⟨us31, us30⟩ := us3
  obtain ⟨us41, us40⟩ := us4
  have C4n : C4 ≤ n := by omega
  have ws : IntKind.u64.wrap (C4 + 3 * n) = C4 + 3 * n := wrap_u64 (by omega)
  have tm : (C4 + 3 * n).tmod 10800000 = C4 + 3 * n := by rw [Int.tmod_eq_emod_of_nonneg (by omega)]; omega
  rw [wt, ws, tm]
  have uS : U4 s4 s3 s2 s1 := ⟨⟨us41, us40⟩, ⟨us31, us30⟩, ⟨us21, us20⟩, us11, us10⟩
  refine ⟨⟨uS, ⟨by omega, by omega⟩, ⟨by decide, by decide⟩, by omega⟩, fun e f g h hi => ?_⟩
  have e1 : (C4 + 3 * n) * W4 + nval s4 s3 s2 s1 = piI * n := by
    unfold nval W4 piI
    omega
  rw [e1] at hi
  exact isN_v hi
theorem h_trrad : ∀ args p Q, qRad args = some (p, Q) → p → ∀ K, Q K → ∃ v, Ans Tryz.prog Φ 88 args v ∧ K v := by
  intro args p Q h hp K hK
  unfold qRad at h
  split at h <;> cases h
  have l := radI_lt hp.1 hp.2
  exact ⟨_, c_trrad hst _ hp.1 hp.2, vNat_is l.1 l.2 hK⟩
omit hst in
theorem lessI_lt (Y o : Int) : ∀ k {u : Int}, 0 ≤ u → u < W4 → 0 ≤ lessI Y o k u ∧ lessI Y o k u < W4
  | 0, u, h0, h1 => ⟨h0, h1⟩
  | k + 1, u, _, _ => lessI_lt Y o k (Int.emod_nonneg _ (by decide)) (Int.emod_lt_of_pos _ (by decide))
theorem c_trless {a b c d o : Int} (hA : U4 a b c d) (ho : Bit o) : Ans Tryz.prog Φ 91 [vN a b c d, .int .u64 o] (vNat (lessI (mulI (nval a b c d) (nval a b c d)) o 34 0)) := by
  refine fn_by hst (s_Tl hst) (vc_trless a b c d o _) ?_
  have hb := bit_lt ho
  refine ⟨⟨hA, hA⟩, fun e f g h hY => ⟨⟨34, 0, 0, 0, 0⟩, ⟨rfl, rfl, rfl, rfl, rfl, rfl, rfl, rfl, rfl, rfl, rfl, rfl, rfl, rfl, rfl, rfl, rfl, rfl, trivial⟩, ⟨Nat.le_refl _, ⟨u0, u0, u0, u0⟩, rfl⟩, fun s hs => ?_⟩⟩
  obtain ⟨k, s1, s2, s3, s4⟩ := s
  obtain ⟨hk, us, eq⟩ := hs
  dsimp only at *
  refine bcase_iff.mpr ⟨fun q => ?_, fun q => ?_⟩
  · have q := of_decide_eq_true q
    obtain ⟨k, rfl⟩ : ∃ j, k = j + 1 := ⟨k - 1, by omega⟩
    have wd : IntKind.u64.wrap (IntKind.u64.wrap (IntKind.u64.wrap (IntKind.u64.wrap (2 * ((k + 1 : Nat) : Int)) - 1) + o) * IntKind.u64.wrap (IntKind.u64.wrap (2 * ((k + 1 : Nat) : Int)) + o)) = (2 * k + 1 + o) * (2 * k + 2 + o) := by
      rw [wrap_u64 (n := 2 * ((k + 1 : Nat) : Int)) (by omega), wrap_u64 (n := 2 * ((k + 1 : Nat) : Int) - 1) (by omega), wrap_u64 (n := 2 * ((k + 1 : Nat) : Int) - 1 + o) (by omega), wrap_u64 (n := 2 * ((k + 1 : Nat) : Int) + o) (by omega)]
      have e1 : 2 * ((k + 1 : Nat) : Int) - 1 + o = 2 * k + 1 + o := by omega
      have e2 : 2 * ((k + 1 : Nat) : Int) + o = 2 * k + 2 + o := by omega
      rw [e1, e2]
      refine wrap_u64 ⟨Int.mul_nonneg (by omega) (by omega), ?_⟩
      have : (2 * k + 1 + o) * (2 * k + 2 + o) ≤ 100 * 100 := Int.mul_le_mul (by omega) (by omega) (by omega) (by decide)
      omega
    rw [wd]
    have dp : 0 < (2 * (k : Int) + 1 + o) * (2 * k + 2 + o) := Int.mul_pos (by omega) (by omega)
    have dl : (2 * (k : Int) + 1 + o) * (2 * k + 2 + o) ≤ 100 * 100 := Int.mul_le_mul (by omega) (by omega) (by omega) (by decide)
    refine ⟨⟨hY.1, u0, ⟨by omega, by omega⟩, dp⟩, fun e1 f1 g1 h1 hq => ⟨⟨hq.1, us⟩, fun e2 f2 g2 h2 hm => ⟨⟨hq.1, hm.1⟩, fun e3 f3 g3 h3 hu => ⟨⟨k, e3, f3, g3, h3⟩, ⟨rfl, ?_, rfl, rfl, rfl, rfl, rfl, rfl, rfl, rfl, rfl, rfl, rfl, rfl, rfl, rfl, rfl, rfl, trivial⟩, ⟨by dsimp only; omega, hu.1, ?_⟩, by dsimp only; omega⟩⟩⟩⟩
    · show IntKind.u64.wrap (((k + 1 : Nat) : Int) - 1) = (k : Int)
      rw [wrap_u64 (by omega)]; omega
    · rw [← eq, hu.2, hm.2, hq.2, hY.2, Int.zero_mul, Int.zero_add]
      rfl
  · have q := of_decide_eq_false q
    obtain rfl : k = 0 := by omega
    refine isN_v ⟨us, ?_⟩
    exact eq
theorem h_trless : ∀ args p Q, qLess args = some (p, Q) → p → ∀ K, Q K → ∃ v, Ans Tryz.prog Φ 91 args v ∧ K v := by
  intro args p Q h hp K hK
  unfold qLess at h
  split at h <;> cases h
  rename_i a b c d o
  have l := lessI_lt (mulI (nval a b c d) (nval a b c d)) o 34 (Int.le_refl 0) (by decide)
  exact ⟨_, c_trless hst hp.1 hp.2, vNat_is l.1 l.2 hK⟩
theorem s_Tn : Sound Tryz.prog Φ ΓTn := Sound.qcons (by kernel_rfl) (h_trmul hst) (Sound.qcons (by kernel_rfl) (h_trsub hst) (Sound.qcons (by kernel_rfl) (h_trrad hst) (Sound.qcons (by kernel_rfl) (h_trless hst) Sound.nil)))
omit hst in
theorem top_word {n e f g h : Int} (hi : IsN n e f g h) : IntKind.i64.wrap (e.fdiv (2 ^ 34)) = n / 107839786668602559178668060348078522694548577690162289924414440996864 := by
  obtain ⟨⟨⟨a0, a1⟩, ⟨b0, b1⟩, ⟨c0, c1⟩, d0, d1⟩, rfl⟩ := hi
  rw [Int.fdiv_eq_ediv_of_nonneg _ (by decide)]
  have : (2 : Int) ^ 34 = 17179869184 := by decide
  rw [this, wrap_in (by omega)]
  unfold nval
  omega
theorem c_trsine (n : Int) (h0 : 0 ≤ n) (h1 : n ≤ 5400000) : Ans Tryz.prog Φ 72 [.int .i64 n] (pair (.int .i64 (sinP n)) (.bool (exB n))) := by
  refine fn_by hst (s_Tn hst) (vc_trsine n _) ?_
  unfold sinP exB
  refine bcase_iff.mpr ⟨fun q => ?_, fun q => bcase_iff.mpr ⟨fun q2 => ?_, fun q2 => bcase_iff.mpr ⟨fun q3 => ?_, fun q3 => ?_⟩⟩⟩
  · have q := eq_of_beq q
    subst q
    rfl
  · have q2 := eq_of_beq q2
    subst q2
    rfl
  · have q3 := eq_of_beq q3
    subst q3
    rfl
  rw [q, q2, q3, if_neg (ne_of_beq_false q), if_neg (ne_of_beq_false q2), if_neg (ne_of_beq_false q3)]
  have w1 : IntKind.i64.wrap (2 * n) = 2 * n := wrap_in (by omega)
  have w2 : IntKind.i64.wrap (5400000 - n) = 5400000 - n := wrap_in (by omega)
  rw [w1, w2]
  refine bcase_iff.mpr ⟨fun q4 => ?_, fun q4 => ?_⟩
  · have q4 := of_decide_eq_true q4
    rw [if_pos q4]
    refine ⟨⟨h0, by omega⟩, fun e f g h hx => ⟨⟨hx.1, .inr rfl⟩, fun e1 f1 g1 h1 hl => ⟨⟨hx.1, hl.1⟩, fun e2 f2 g2 h2 hm => ⟨⟨hx.1, hm.1⟩, fun e3 f3 g3 h3 hs => ?_⟩⟩⟩⟩
    rw [top_word hs, hm.2, hl.2, hx.2]
    rfl
  · have q4 := of_decide_eq_false q4
    rw [if_neg q4]
    refine ⟨⟨by omega, by omega⟩, fun e f g h hx => ⟨⟨hx.1, bit0⟩, fun e1 f1 g1 h1 hl => ⟨⟨⟨u0, u0, u0, u0⟩, hl.1⟩, fun e3 f3 g3 h3 hs => ?_⟩⟩⟩
    rw [top_word hs, hl.2, hx.2]
    rfl
end Go.Proofs.YtikbpleaaaeibaaGreat
