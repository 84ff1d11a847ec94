/- Rounding in the program; a rounded number is near. -/
import Derived.Test.YtobmbbmompoliaaCtM
import Derived.Test.YtobmbbmompoliaaVcO
namespace Go.Proofs.Ytobmbbmompoliaa
open Go Go.Abs Go.RowKit
set_option linter.unusedVariables false
set_option linter.unusedSimpArgs false
theorem mul_mono {n m u : Int} (hu : 0 < u) (h : n ≤ m) : mulI n u ≤ mulI m u := by
  unfold mulI
  have e1 := Int.mul_ediv_add_emod n u
  have e2 := Int.mul_ediv_add_emod m u
  have a1 := Int.emod_nonneg n (b := u) (by omega)
  have a2 := Int.emod_lt_of_pos n (b := u) hu
  have b1 := Int.emod_nonneg m (b := u) (by omega)
  have b2 := Int.emod_lt_of_pos m (b := u) hu
  have q := Int.ediv_le_ediv hu h
  rcases Int.lt_or_eq_of_le q with c | c
  · split <;> split <;> omega
  · rw [c] at e1 ⊢
    split <;> split <;> omega
theorem mul_near {n u : Int} (hu : 0 < u) : -u ≤ 2 * (n - u * mulI n u) ∧ 2 * (n - u * mulI n u) < u := by
  unfold mulI
  have e1 := Int.mul_ediv_add_emod n u
  have a1 := Int.emod_nonneg n (b := u) (by omega)
  have a2 := Int.emod_lt_of_pos n (b := u) hu
  split
  · rw [Int.mul_add]; omega
  · omega
theorem mul_box {n u : Int} (hu : 0 < u) (h0 : -2251799813685248 ≤ n) (h1 : n ≤ 2251799813685248) :
    Int.tdiv (-2251799813685248) u - 1 ≤ mulI n u ∧ mulI n u ≤ Int.tdiv 2251799813685248 u + 1 := by
  have q0 := Int.ediv_le_ediv hu h0
  have q1 := Int.ediv_le_ediv hu h1
  have t0 : Int.tdiv (-2251799813685248) u ≤ -2251799813685248 / u + 1 := by rcases tdiv_case (-2251799813685248) u hu with ⟨_, e⟩ | ⟨_, e⟩ <;> omega
  have t1 : 2251799813685248 / u ≤ Int.tdiv 2251799813685248 u := by rcases tdiv_case 2251799813685248 u hu with ⟨_, e⟩ | ⟨_, e⟩ <;> omega
  unfold mulI
  split <;> omega
theorem mul_cap {n u : Int} (hu : 0 < u) (h0 : -2000000000000000 ≤ n) (h1 : n ≤ 2000000000000000) : -2251799813685248 ≤ mulI n u ∧ mulI n u ≤ 2251799813685248 := by
  have q := ediv_bd (a := n) (b := u) hu h0 h1 (by decide) (by decide)
  unfold mulI
  split <;> omega
theorem box_cap {u : Int} (hu : 0 < u) : -2251799813685249 ≤ Int.tdiv (-2251799813685248) u ∧ Int.tdiv (-2251799813685248) u ≤ 2251799813685249 ∧ -2251799813685249 ≤ Int.tdiv 2251799813685248 u ∧ Int.tdiv 2251799813685248 u ≤ 2251799813685249 := by
  have q := ediv_bd (a := -2251799813685248) (b := u) (lo := -2251799813685248) (hi := 2251799813685248) hu (by omega) (by omega) (by decide) (by decide)
  have r := ediv_bd (a := 2251799813685248) (b := u) (lo := -2251799813685248) (hi := 2251799813685248) hu (by omega) (by omega) (by decide) (by decide)
  rcases tdiv_case (-2251799813685248) u hu with ⟨_, e⟩ | ⟨_, e⟩ <;> rcases tdiv_case 2251799813685248 u hu with ⟨_, f⟩ | ⟨_, f⟩ <;> omega
/-- What is rounded by itself. -/
theorem self_ok {n u : Int} (hu : Unit u) (hn : Fits n) : ok1 n n u := ⟨⟨hu, ⟨hn, hn⟩, Int.le_refl _⟩, rfl⟩
theorem er1_self {n u : Int} (hu : Unit u) (hn : Fits n) : er1 n n u = 0 := by
  unfold er1; rw [pick_yes (self_ok hu hn).1, pick_yes rfl]
variable {Φ : World → Prop} (hst : ∀ w w', Φ w → Below w.heap.size w w' → Φ w')
include hst
theorem c_round (lo hi u : Int) : Ans Try.prog Φ 12 [num lo, num hi, num u] (pair (num (gate (ok1 lo hi u) (mulI lo u))) (num (er1 lo hi u))) := by
  refine fn_by hst (Sound.cons (by kernel_rfl) (fun args p v h _ => by unfold sRounded at h; split at h <;> cases h; exact c_rounded hst _ _ _) Sound.nil) (vc_round1 lo hi u _) ?_
  rw [er1_eq]
  refine ⟨trivial, ?_⟩
  rcases ways lo hi u with ⟨a, b, c⟩ | ⟨a, b, c, d⟩ | ⟨a, b, c, d, e⟩ | ⟨a, b, c, d, e⟩
  · rw [gate_no (fun k : ok1 lo hi u => b k.1), if_neg b, c, gate_no b]; exact rfl
  · rw [gate_no (fun k : ok1 lo hi u => c k.1), if_neg c, d, gate_no c]; exact rfl
  · rw [gate_no (fun k : ok1 lo hi u => d k.1), if_neg d, e, gate_no d]; exact rfl
  · rw [if_pos d, e, gate_yes d, gate_yes d, show ((0 : Int) == 0) = true from rfl, bcase_true]
    refine bcase_iff.mpr ⟨fun k => ?_, fun k => ?_⟩
    · have k : mulI lo u ≠ mulI hi u := by simpa using k
      rw [gate_no (fun q : ok1 lo hi u => k q.2), if_neg k]
    · have k : mulI lo u = mulI hi u := by simpa using k
      rw [gate_yes (show ok1 lo hi u from ⟨d, k⟩), if_pos k]
omit hst in
theorem near_tree {lo w u a : Int} (w0 : 0 ≤ w) (w1 : w ≤ 65535) (a0 : 0 ≤ a) (a1 : a ≤ 65535) : callsX Try.prog ΓNr ANear 5 [num lo, .int .u16 w, num u, .int .u16 a] (fun v => v = .bool true) := by
  rw [vc_near1]
  refine ⟨trivial, bcase_iff.mpr ⟨fun _ => rfl, fun h1 => bcase_iff.mpr ⟨fun _ => rfl, fun h2 => bcase_iff.mpr ⟨fun _ => rfl, fun h3 => bcase_iff.mpr ⟨fun _ => rfl, fun h4 => ?_⟩⟩⟩⟩⟩
  have h1 := of_decide_eq_false h1
  have h2 := of_decide_eq_false h2
  have h3 := of_decide_eq_false h3
  have h4 := of_decide_eq_false h4
  have hu : 0 < u := by omega
  have Hu : Unit u := ⟨by omega, by omega⟩
  have hw : IntKind.i64.wrap w = w := wrap_in (by omega)
  have hw1 : IntKind.i64.wrap (w + 1) = w + 1 := wrap_in (by omega)
  have ha : IntKind.i64.wrap a = a := wrap_in (by omega)
  have hr : a.tmod (w + 1) = a % (w + 1) := by rcases tmod_case a (w + 1) (by omega) with ⟨c, e⟩ | ⟨_, e⟩ <;> have := Int.tmod_nonneg (w + 1) a0 <;> omega
  have r0 := Int.emod_nonneg a (b := w + 1) (by omega)
  have r1 := Int.emod_lt_of_pos a (b := w + 1) (by omega)
  rw [hw, hw1, ha, hr, wrap_in (n := lo + w) (by omega), wrap_in (n := lo + a % (w + 1)) (by omega)]
  generalize a % (w + 1) = r at *
  obtain ⟨x, hx⟩ : ∃ x, lo + w = x := ⟨_, rfl⟩
  obtain ⟨y, hy⟩ : ∃ y, lo + r = y := ⟨_, rfl⟩
  rw [hx, hy]
  have F1 : Fits lo := ⟨by omega, by omega⟩
  have F2 : Fits x := ⟨by omega, by omega⟩
  have F3 : Fits y := ⟨by omega, by omega⟩
  have le1 := mul_mono (n := lo) (m := y) hu (by omega)
  have le2 := mul_mono (n := y) (m := x) hu (by omega)
  have n1 := mul_near (n := lo) hu
  have n2 := mul_near (n := x) hu
  have n3 := mul_near (n := y) hu
  have b1 := mul_box (n := lo) hu (by omega) (by omega)
  have b2 := mul_box (n := x) hu (by omega) (by omega)
  have b3 := mul_box (n := y) hu (by omega) (by omega)
  have c1 := mul_cap (n := lo) hu (by omega) (by omega)
  have c2 := mul_cap (n := x) hu (by omega) (by omega)
  have c3 := mul_cap (n := y) hu (by omega) (by omega)
  have bc := box_cap hu
  have okW : okR lo x u := ⟨Hu, ⟨F1, F2⟩, by omega⟩
  have fin : bcase (mulI lo u != mulI x u) (bcase (er1 lo x u == 24) (Value.bool (gate (ok1 lo x u) (mulI lo u) == 0) = .bool true) (Value.bool false = .bool true))
      (bcase (er1 lo x u == 0) (Value.bool (gate (ok1 lo x u) (mulI lo u) == mulI lo u) = .bool true) (Value.bool false = .bool true)) := by
    rw [er1_eq, if_pos okW]
    refine bcase_iff.mpr ⟨fun k => ?_, fun k => ?_⟩
    · have k : mulI lo u ≠ mulI x u := by simpa using k
      rw [if_neg k, gate_no (fun q : ok1 lo x u => k q.2)]; exact rfl
    · have k : mulI lo u = mulI x u := by simpa using k
      rw [if_pos k, gate_yes (show ok1 lo x u from ⟨okW, k⟩)]
      show Value.bool (mulI lo u == mulI lo u) = .bool true
      rw [beq_self_eq_true]
  have ub : (u == 0) = false := beq_eq_false_iff_ne.mpr (by omega)
  have wb : (w + 1 == 0) = false := beq_eq_false_iff_ne.mpr (by omega)
  rw [er1_self Hu F1, er1_self Hu F2, er1_self Hu F3, gate_yes (self_ok Hu F1), gate_yes (self_ok Hu F2), gate_yes (self_ok Hu F3), ub, wb]
  generalize mulI lo u = M1 at *
  generalize mulI x u = M2 at *
  generalize mulI y u = M3 at *
  generalize u * M1 = P1 at *
  generalize u * M2 = P2 at *
  generalize u * M3 = P3 at *
  generalize Int.tdiv (-2251799813685248) u = T0 at *
  generalize Int.tdiv 2251799813685248 u = T1 at *
  rw [wrap_in (n := P1) (by omega), wrap_in (n := P2) (by omega), wrap_in (n := P3) (by omega), wrap_in (n := T0) (by omega), wrap_in (n := T1) (by omega), wrap_in (n := T0 - 1) (by omega), wrap_in (n := T1 + 1) (by omega),
    wrap_in (n := lo - P1) (by omega), wrap_in (n := x - P2) (by omega), wrap_in (n := y - P3) (by omega), wrap_in (n := 2 * (lo - P1)) (by omega), wrap_in (n := 2 * (x - P2)) (by omega), wrap_in (n := 2 * (y - P3)) (by omega), wrap_in (n := 0 - u) (by omega)]
  have z : ((0 : Int) != 0) = false := rfl
  rw [z, bcase_false]
  refine ⟨trivial, trivial, trivial, ?_⟩
  rw [bcase_false, bcase_false, bcase_false, bcase_false]
  repeat rw [decide_eq_false (by omega), bcase_false]
  exact ⟨trivial, fin⟩

omit hst in
theorem law_near (lo w u a : Int) (w0 : 0 ≤ w) (w1 : w ≤ 65535) (a0 : 0 ≤ a) (a1 : a ≤ 65535) : Ans Try.prog Vs 5 [num lo, .int .u16 w, num u, .int .u16 a] (.bool true) := by
  refine fn_by (Γ := ΓNr) (A := ANear) st_vs (Sound.cons (by kernel_rfl) (fun args p v h _ => by unfold sYes at h; split at h <;> cases h; exact c_awake)
    (Sound.cons (by kernel_rfl) (fun args p v h _ => by unfold sRound at h; split at h <;> cases h; exact c_round st_vs _ _ _) Sound.nil)) (vc_near1 lo w u a _) ?_
  exact Eq.mp (vc_near1 lo w u a _) (near_tree w0 w1 a0 a1)
end Go.Proofs.Ytobmbbmompoliaa
