/- The reference's floor of a sine: contracts. -/
import Derived.Test.YtidhogcijghogaaGreatDoorTrhC
namespace Go.Proofs.YtidhogcijghogaaGreatDoor
open Go Go.Abs Go.RowKit Go.Sine
set_option linter.unusedVariables false
set_option linter.unusedSimpArgs false
theorem z_bound {z : Int} {T : Rat} (h : -208 ≤ (z : Rat) - 2 ^ 62 * T ∧ (z : Rat) - 2 ^ 62 * T ≤ 208) (t0 : 0 ≤ T) (t1 : T ≤ 1) : -300 ≤ z ∧ z ≤ 4611686018427388204 := by
  have c1 : ((-300 : Int) : Rat) = -300 := rfl
  have c2 : ((300 : Int) : Rat) = 300 := rfl
  have a : -300 ≤ z := Rat.intCast_le_intCast.mp (by rw [c1]; grind)
  have b : z ≤ 2 ^ 62 + 300 := Rat.intCast_le_intCast.mp (by rw [Rat.intCast_add, Rat.intCast_pow, c2, z2]; grind)
  have e : (2 : Int) ^ 62 + 300 = 4611686018427388204 := by decide
  rw [e] at b
  exact ⟨a, b⟩
theorem le1 {x : Rat} (h : 1000 * x ≤ 786) : x ≤ 1 := by grind
theorem pos2 {x : Rat} (h : 1 ≤ 2 * x) : 0 ≤ x := by grind
theorem sn_01 {r : Nat} (hr : r ≤ 2700000) : 0 ≤ sn (an r) ∧ sn (an r) ≤ 1 :=
  have s := sn_le (an_nonneg r) (le1 (an_le hr))
  ⟨s.1, Rat.le_trans s.2 (le1 (an_le hr))⟩
theorem cs_01 {r : Nat} (hr : r ≤ 2700000) : 0 ≤ cs (an r) ∧ cs (an r) ≤ 1 :=
  ⟨pos2 (cs_half (an_nonneg r) (le1 (an_le hr))), (cs_le (an_nonneg r) (le1 (an_le hr))).2⟩
theorem qq_bound {r : Int} (c : Bool) (h0 : 0 ≤ r) (h1 : r ≤ 2700000) : -300 ≤ qqI r c ∧ qqI r c ≤ 4611686018427388204 := by
  obtain ⟨r, rfl⟩ := Int.eq_ofNat_of_zero_le h0
  have hr : r ≤ 2700000 := by omega
  unfold qqI
  rw [Int.toNat_natCast]
  cases c
  · rw [cond_false]; exact z_bound (qs_err hr) (sn_01 hr).1 (sn_01 hr).2
  · rw [cond_true]; exact z_bound (qc_err hr) (cs_01 hr).1 (cs_01 hr).2
variable {Φ : World → Prop} (hst : ∀ w w', Φ w → Below w.heap.size w w' → Φ w')
include hst
theorem s_Q2 : Sound Tryz.prog Φ ΓQ2 := Sound.cons (by kernel_rfl) (fun args p v h hp => by unfold sQuick1 at h; split at h <;> cases h; exact c_r6quick hst _ hp.1 hp.2) Sound.nil
omit hst in
theorem tmods {m : Int} (h : 0 ≤ m) (k : Int) (hk : 0 ≤ k) : m.tmod k = m % k ∧ m.tdiv k = m / k := ⟨Int.tmod_eq_emod_of_nonneg h, Int.tdiv_eq_ediv_of_nonneg h⟩
omit hst in
theorem quick_tail {m n : Int} (h0 : 0 ≤ m) (h1 : m < 21600000) (hn : mI n = m) :
    bcase (decide (m.tmod 5400000 > 2700000))
    ((0 ≤ IntKind.i64.wrap (5400000 - m.tmod 5400000) ∧ IntKind.i64.wrap (5400000 - m.tmod 5400000) ≤ 2700000) ∧
    bcase (decide (IntKind.i64.wrap (m.tdiv 5400000) ≥ 2)) (Value.int IntKind.i64 (IntKind.i64.wrap (0 - qqI (IntKind.i64.wrap (5400000 - m.tmod 5400000)) !(IntKind.i64.wrap (m.tdiv 5400000)).tmod 2 == 1)) = Value.int .i64 (quickI n))
    (Value.int IntKind.i64 (qqI (IntKind.i64.wrap (5400000 - m.tmod 5400000)) !(IntKind.i64.wrap (m.tdiv 5400000)).tmod 2 == 1) = Value.int .i64 (quickI n)))
    ((0 ≤ m.tmod 5400000 ∧ m.tmod 5400000 ≤ 2700000) ∧
    bcase (decide (IntKind.i64.wrap (m.tdiv 5400000) ≥ 2)) (Value.int IntKind.i64 (IntKind.i64.wrap (0 - qqI (m.tmod 5400000) ((IntKind.i64.wrap (m.tdiv 5400000)).tmod 2 == 1))) = Value.int .i64 (quickI n))
    (Value.int IntKind.i64 (qqI (m.tmod 5400000) ((IntKind.i64.wrap (m.tdiv 5400000)).tmod 2 == 1)) = Value.int .i64 (quickI n))) := by
  obtain ⟨e1, e2⟩ := tmods h0 5400000 (by decide)
  rw [e1, e2]
  have w1 : IntKind.i64.wrap (m / 5400000) = m / 5400000 := wrap_in (by omega)
  have w2 : IntKind.i64.wrap (5400000 - m % 5400000) = 5400000 - m % 5400000 := wrap_in (by omega)
  have e3 : (m / 5400000).tmod 2 = m / 5400000 % 2 := (tmods (by omega) 2 (by decide)).1
  rw [w1, w2, e3]
  have hc : (m / 5400000 % 2 == 1) = decide (m / 5400000 % 2 = 1) := by
    by_cases q : m / 5400000 % 2 = 1
    · rw [decide_eq_true q]; exact beq_iff_eq.mpr q
    · rw [decide_eq_false q]; exact beq_eq_false_iff_ne.mpr q
  rw [hc]
  unfold quickI halfI cosB
  rw [hn]
  refine bcase_iff.mpr ⟨fun q => ?_, fun q => ?_⟩
  · have q := of_decide_eq_true q
    rw [if_pos q, if_pos q]
    have b := qq_bound (r := 5400000 - m % 5400000) (!decide (m / 5400000 % 2 = 1)) (by omega) (by omega)
    refine ⟨⟨by omega, by omega⟩, bcase_iff.mpr ⟨fun q2 => ?_, fun q2 => ?_⟩⟩
    · have q2 := of_decide_eq_true q2
      rw [if_pos q2, wrap_in (by omega), Int.zero_sub]
    · have q2 := of_decide_eq_false q2
      rw [if_neg q2]
  · have q := of_decide_eq_false q
    rw [if_neg q, if_neg q]
    have b := qq_bound (r := m % 5400000) (decide (m / 5400000 % 2 = 1)) (by omega) (by omega)
    refine ⟨⟨by omega, by omega⟩, bcase_iff.mpr ⟨fun q2 => ?_, fun q2 => ?_⟩⟩
    · have q2 := of_decide_eq_true q2
      rw [if_pos q2, wrap_in (by omega), Int.zero_sub]
    · have q2 := of_decide_eq_false q2
      rw [if_neg q2]
omit hst in
/-- What is left of a division that goes to zero. -/
theorem tmod_cases (n : Int) : (n.tmod 21600000 < 0 ∧ n.tmod 21600000 + 21600000 = mI n) ∨ (¬ n.tmod 21600000 < 0 ∧ n.tmod 21600000 = mI n) := by
  unfold mI
  rcases Int.le_total 0 n with h | h
  · right
    rw [Int.tmod_eq_emod_of_nonneg h]
    omega
  · have : n.tmod 21600000 = - ((-n) % 21600000) := by
      rw [← Int.tmod_eq_emod_of_nonneg (by omega), Int.neg_tmod, Int.neg_neg]
    rw [this]
    omega
theorem c_r6Quick {n : Int} (hn : I64 n) : Ans Tryz.prog Φ 101 [.int .i64 n] (.int .i64 (quickI n)) := by
  refine fn_by hst (s_Q2 hst) (vc_r6Quick n _) ?_
  have m0 : 0 ≤ mI n ∧ mI n < 21600000 := by unfold mI; omega
  refine bcase_iff.mpr ⟨fun q => ?_, fun q => ?_⟩
  · have q := of_decide_eq_true q
    rcases tmod_cases n with ⟨_, e⟩ | ⟨h, _⟩
    · rw [e, wrap_in (by omega)]
      exact quick_tail m0.1 m0.2 rfl
    · exact absurd q h
  · have q := of_decide_eq_false q
    rcases tmod_cases n with ⟨h, _⟩ | ⟨_, e⟩
    · exact absurd h q
    · rw [e]
      exact quick_tail m0.1 m0.2 rfl
/-! The floor. -/
omit hst in
theorem near45 : (-20 ≤ qc 2700000 - qs 2700000 ∧ qc 2700000 - qs 2700000 ≤ 20) := by decide +kernel
omit hst in
/-- The sine of a part of the first quarter. -/
def tQ (p : Nat) : Rat := if 2 * p ≤ 5400000 then sn (an p) else cs (an (5400000 - p))
omit hst in
theorem exB_no {p : Nat} (h : exB (p : Int) = false) : p ≠ 0 ∧ p ≠ 1800000 ∧ p ≠ 5400000 := by
  unfold exB at h
  simp only [Bool.or_eq_false_iff, beq_eq_false_iff_ne] at h
  omega
omit hst in
theorem far_tQ {p : Nat} (h : exB (p : Int) = false) (hp : p ≤ 5400000) : Far (tQ p) ∧ IsFl (sinP p) (tQ p) := by
  obtain ⟨n0, n1, n2⟩ := exB_no h
  unfold tQ sinP
  rw [if_neg (show ¬ (p : Int) = 0 by omega), if_neg (show ¬ (p : Int) = 1800000 by omega), if_neg (show ¬ (p : Int) = 5400000 by omega)]
  by_cases q : 2 * p ≤ 5400000
  · rw [if_pos q, if_pos (by omega)]
    exact ⟨far_sn n0 n1 (by omega), sin_fl n0 n1 (by omega)⟩
  · rw [if_neg q, if_neg (by omega)]
    have e : (5400000 : Int) - p = ((5400000 - p : Nat) : Int) := by omega
    rw [e]
    exact ⟨far_cs (by omega) (by omega), cos_fl (by omega) (by omega)⟩
omit hst in
theorem near_a {z : Int} {T : Rat} (h : -208 ≤ (z : Rat) - 2 ^ 62 * T ∧ (z : Rat) - 2 ^ 62 * T ≤ 208) : -300 ≤ (z : Rat) - 2 ^ 62 * T ∧ (z : Rat) - 2 ^ 62 * T ≤ 300 := by
  constructor <;> grind
omit hst in
theorem near_b {u v : Int} {T : Rat} (h : -208 ≤ (v : Rat) - 2 ^ 62 * T ∧ (v : Rat) - 2 ^ 62 * T ≤ 208) (n : -20 ≤ u - v ∧ u - v ≤ 20) : -300 ≤ (u : Rat) - 2 ^ 62 * T ∧ (u : Rat) - 2 ^ 62 * T ≤ 300 := by
  have n1 := i_le n.1
  have n2 := i_le n.2
  rw [Rat.intCast_sub] at n1 n2
  have c1 : ((-20 : Int) : Rat) = -20 := rfl
  have c2 : ((20 : Int) : Rat) = 20 := rfl
  rw [c1] at n1
  rw [c2] at n2
  clear n
  constructor <;> grind
omit hst in
theorem qq_near1 {p : Nat} (h : p ≤ 2700000) : -300 ≤ (qqI p false : Rat) - 2 ^ 62 * tQ p ∧ (qqI p false : Rat) - 2 ^ 62 * tQ p ≤ 300 := by
  unfold qqI tQ
  rw [if_pos (by omega), Int.toNat_natCast, cond_false]
  exact near_a (qs_err h)
omit hst in
theorem qq_near2 {p : Nat} (h0 : 2700000 ≤ p) (h1 : p ≤ 5400000) : -300 ≤ (qqI ((5400000 - p : Nat) : Int) true : Rat) - 2 ^ 62 * tQ p ∧ (qqI ((5400000 - p : Nat) : Int) true : Rat) - 2 ^ 62 * tQ p ≤ 300 := by
  unfold qqI tQ
  rw [Int.toNat_natCast, cond_true]
  by_cases e : p = 2700000
  · subst e
    rw [if_pos (by decide), show (5400000 - 2700000 : Nat) = 2700000 from rfl]
    exact near_b (qs_err (r := 2700000) (Nat.le_refl _)) near45
  · rw [if_neg (by omega)]
    exact near_a (qc_err (r := 5400000 - p) (by omega))
omit hst in
theorem isFl0 {V : Int} {T : Rat} (hF : Far T) (hV : -600 ≤ (V : Rat) - 2 ^ 62 * T ∧ (V : Rat) - 2 ^ 62 * T ≤ 600) : IsFl (V / 4294967296) T := by
  have := isFl_near (q := 0) (V := V) hF (by
    have : (1 : Rat) / 2 ^ 0 = 1 := by decide +kernel
    rw [this]
    constructor <;> grind)
  have e : (2 ^ (32 + 0) : Int) = 4294967296 := by decide
  rw [e] at this
  exact this
omit hst in
theorem far_neg {T : Rat} (h : Far T) : Far (-T) := by
  intro m
  have k := h (-m)
  rw [Rat.intCast_neg] at k
  rcases k with k | k
  · right; grind
  · left; grind
omit hst in
theorem isFl_neg {m : Int} {T : Rat} (hF : Far T) (h : IsFl m T) : IsFl (-(m + 1)) (-T) := by
  have k1 := hF m
  obtain ⟨h1, h2⟩ := h
  have e : ((-(m + 1) : Int) : Rat) = -((m : Rat) + 1) := by rw [Rat.intCast_neg, Rat.intCast_add, z1]
  unfold IsFl
  rw [e]
  constructor <;> grind
omit hst in
/-- All three floors of a quick value are the floor. -/
theorem floors {v m : Int} {T : Rat} (hF : Far T) (hm : IsFl m T) (hv : -300 ≤ (v : Rat) - 2 ^ 62 * T ∧ (v : Rat) - 2 ^ 62 * T ≤ 300) : (v - 256) / 4294967296 = m ∧ v / 4294967296 = m ∧ (v + 256) / 4294967296 = m := by
  have c : ((256 : Int) : Rat) = 256 := rfl
  refine ⟨isFl_one (isFl0 hF ?_) hm, isFl_one (isFl0 hF ?_) hm, isFl_one (isFl0 hF ?_) hm⟩
  · rw [Rat.intCast_sub, c]; constructor <;> grind
  · constructor <;> grind
  · rw [Rat.intCast_add, c]; constructor <;> grind
omit hst in
theorem quart_range (n : Int) : 0 ≤ quartI n ∧ quartI n ≤ 5400000 := by
  have m0 : 0 ≤ mI n ∧ mI n < 21600000 := by unfold mI; omega
  unfold quartI
  split <;> split <;> omega
omit hst in
theorem quick_floor {n : Int} (h : exN n = false) : (quickI n - 256) / 4294967296 = loI n ∧ quickI n / 4294967296 = loI n ∧ (quickI n + 256) / 4294967296 = loI n := by
  unfold exN at h
  obtain ⟨p0, p1⟩ := quart_range n
  have m0 : 0 ≤ mI n ∧ mI n < 21600000 := by unfold mI; omega
  obtain ⟨p, hp⟩ := Int.eq_ofNat_of_zero_le p0
  rw [hp] at h
  have hp5 : p ≤ 5400000 := by omega
  obtain ⟨hF, hI⟩ := far_tQ h hp5
  obtain ⟨x0, x1, x2⟩ := exB_no h
  unfold loI southB upI
  rw [hp, h]
  -- the quick value
  have near : ∀ r c, ((r : Int) = p ∧ c = false ∧ p ≤ 2700000) ∨ (r = ((5400000 - p : Nat) : Int) ∧ c = true ∧ 2700000 ≤ p) → -300 ≤ (qqI r c : Rat) - 2 ^ 62 * tQ p ∧ (qqI r c : Rat) - 2 ^ 62 * tQ p ≤ 300 := by
    rintro r c (⟨rfl, rfl, e⟩ | ⟨rfl, rfl, e⟩)
    · exact qq_near1 e
    · exact qq_near2 e hp5
  have key : ((halfI (mI n) : Int) = p ∧ cosB (mI n) = false ∧ p ≤ 2700000) ∨ (halfI (mI n) = ((5400000 - p : Nat) : Int) ∧ cosB (mI n) = true ∧ 2700000 ≤ p) := by
    unfold quartI at hp
    unfold halfI cosB
    generalize mI n = m at *
    by_cases a : m % 5400000 > 2700000
    · rw [if_pos a, if_pos a]
      by_cases b : m / 5400000 % 2 = 1
      · left
        rw [decide_eq_true b]
        refine ⟨?_, rfl, ?_⟩ <;> split at hp <;> split at hp <;> omega
      · right
        rw [decide_eq_false b]
        refine ⟨?_, rfl, ?_⟩ <;> split at hp <;> split at hp <;> omega
    · rw [if_neg a, if_neg a]
      by_cases b : m / 5400000 % 2 = 1
      · right
        rw [decide_eq_true b]
        refine ⟨?_, rfl, ?_⟩ <;> split at hp <;> split at hp <;> omega
      · left
        rw [decide_eq_false b]
        refine ⟨?_, rfl, ?_⟩ <;> split at hp <;> split at hp <;> omega
  have N := near _ _ key
  unfold quickI
  by_cases s : 10800000 < mI n
  · rw [if_pos (show 2 ≤ mI n / 5400000 by omega), decide_eq_true s, if_pos rfl, if_neg (by decide)]
    refine floors (far_neg hF) (isFl_neg hF hI) ?_
    rw [Rat.intCast_neg]
    constructor <;> grind
  · have ne : mI n ≠ 10800000 := fun e => by
      unfold quartI at hp
      rw [e] at hp
      simp at hp
      omega
    rw [if_neg (show ¬ 2 ≤ mI n / 5400000 by omega), decide_eq_false s, if_neg (by decide)]
    exact floors hF hI N
end Go.Proofs.YtidhogcijghogaaGreatDoor
