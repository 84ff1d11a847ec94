/- Contracts of the functions of decimal over numbers; the chapter's examples hold. -/
import Derived.Test.YtobmbbmompoliaaDoorVcM
import Derived.Test.YtobmbbmompoliaaDoorVcN
import Derived.Test.YtobmbbmompoliaaDoorShelf
import Derived.HandedShaped
namespace Go.Proofs.YtobmbbmompoliaaDoor
open Go Go.Abs Go.RowKit
set_option linter.unusedVariables false
set_option linter.unusedSimpArgs false
theorem eq_num {k : IntKind} {a b : Int} (h : a = b) : Value.int k a = .int k b := by rw [h]
theorem eq_dec {p q : Prop} [Decidable p] [Decidable q] (h : p ↔ q) : Value.bool (decide p) = .bool (decide q) := by simp [h]
theorem eq_yes {p : Prop} [Decidable p] (h : p) : Value.bool true = .bool (decide p) := by simp [h]
theorem eq_no {p : Prop} [Decidable p] (h : ¬ p) : Value.bool false = .bool (decide p) := by simp [h]
theorem eq_pair {a b c d : Value} (h : a = c) (k : b = d) : Value.tuple #[a, b] = pair c d := by rw [h, k]
theorem eq_arc {a b c d : Int} (h : a = c) (k : b = d) : Value.agg #[.int .i64 a, .int .i64 b] = .agg #[.int .i64 c, .int .i64 d] := by rw [h, k]
theorem gate_yes {c : Prop} [Decidable c] {x : Int} (h : c) : gate c x = x := if_pos h
theorem gate_no {c : Prop} [Decidable c] {x : Int} (h : ¬ c) : gate c x = 0 := if_neg h
theorem pick_yes {c : Prop} [Decidable c] {x y : Int} (h : c) : pick c x y = x := if_pos h
theorem pick_no {c : Prop} [Decidable c] {x y : Int} (h : ¬ c) : pick c x y = y := if_neg h
theorem gateS_yes {c : Prop} [Decidable c] {x : ByteArray} (h : c) : gateS c x = x := if_pos h
theorem gateS_no {c : Prop} [Decidable c] {x : ByteArray} (h : ¬ c) : gateS c x = ⟨#[]⟩ := if_neg h
theorem tmod_case (n t : Int) (h : 0 < t) : (n.tmod t < 0 ∧ n.tmod t = n % t - t) ∨ (0 ≤ n.tmod t ∧ n.tmod t = n % t) := by
  have h1 := Int.emod_nonneg n (b := t) (by omega)
  have h2 := Int.emod_lt_of_pos n h
  rw [Int.tmod_eq_emod]
  split <;> omega
theorem tdiv_case (n t : Int) (h : 0 < t) : (n.tmod t < 0 ∧ n.tdiv t = n / t + 1) ∨ (0 ≤ n.tmod t ∧ n.tdiv t = n / t) := by
  have e1 := Int.mul_tdiv_add_tmod n t
  have e2 := Int.mul_ediv_add_emod n t
  rcases tmod_case n t h with ⟨c, e⟩ | ⟨c, e⟩
  · refine .inl ⟨c, ?_⟩
    have : t * n.tdiv t = t * (n / t + 1) := by rw [Int.mul_add]; omega
    exact Int.eq_of_mul_eq_mul_left (by omega) this
  · refine .inr ⟨c, ?_⟩
    have : t * n.tdiv t = t * (n / t) := by omega
    exact Int.eq_of_mul_eq_mul_left (by omega) this
/-- The library's variable holds some int. -/
def Vs (w : World) : Prop := ∃ m, w.cell? ⟨0, 0, none⟩ = some (.int .i64 m)
theorem st_vs : ∀ w w', Vs w → Below w.heap.size w w' → Vs w' := fun w w' ⟨m, h⟩ hb => ⟨m, by rw [hb.cell (p := ⟨0, 0, none⟩) (World.block_lt_of_cell? w _ h)]; exact h⟩
theorem s_S : Sound Tryd.prog Vs ΓS :=
  Sound.cons (by kernel_rfl) (fun args p v h _ => by
      unfold sCutPrefix at h; split at h <;> cases h
      exact fun w _ => (Tryd.strings_CutPrefix _ _ w).mono (by rintro e w' ⟨rfl, rfl⟩; exact ⟨rfl, Below.refl _ _⟩))
  (Sound.cons (by kernel_rfl) (fun args p v h hp => by
      unfold sCut at h; split at h <;> cases h
      exact fun w ⟨m, hm⟩ => (Tryd.strings_Cut _ _ m w hp hm).mono (by rintro e w' ⟨rfl, n, rfl⟩; exact ⟨rfl, below_drewN (Below.refl _ _) n⟩))
  (Sound.cons (by kernel_rfl) (fun args p v h hp => by
      unfold sRepeat at h; split at h <;> cases h
      rename_i s c
      intro w _
      obtain ⟨h0, h1, h2⟩ := hp
      have hc : ((c.toNat : Nat) : Int) = c := by omega
      have := Tryd.strings_Repeat s c.toNat w (by omega) (by have := Nat.mul_le_mul h2 (show c.toNat ≤ 1000 by omega); omega)
      rw [hc] at this
      exact this)
  (Sound.cons (by kernel_rfl) (fun args p v h _ => by
      unfold sIndexByte at h; split at h <;> cases h
      exact fun w _ => (Tryd.strings_IndexByte _ _ w).mono (by rintro e w' ⟨rfl, rfl⟩; exact ⟨rfl, Below.refl _ _⟩)) Sound.nil)))
theorem c_awake : Ans Tryd.prog Vs 4 [] (.bool true) := by
  refine fn_by st_vs s_S (vc_awake _) ?_
  refine ⟨rfl, rfl, rfl, rfl, rfl, rfl, trivial, by unfold ShortS; decide, by unfold RepOk; decide, rfl, rfl, rfl, rfl, rfl, rfl, trivial, rfl, rfl, rfl, rfl, congrArg Value.bool ?_⟩
  decide +kernel
variable {Φ : World → Prop} (hst : ∀ w w', Φ w → Below w.heap.size w w' → Φ w')
include hst
theorem c_big (n : Int) : Ans Tryd.prog Φ 19 [num n] (.bool (decide (¬ Fits n))) := by
  refine fn_by hst Sound.nil (vc_big n _) ?_
  simp only [bcase_iff, true_and, and_true, decide_eq_true_eq, decide_eq_false_iff_not, Bool.not_eq_true', Bool.not_eq_false', Bool.not_true, Bool.not_false, beq_iff_eq, beq_eq_false_iff_ne, bne_iff_ne, ne_eq, bne_eq_false_iff_eq, Decidable.not_not, ge_iff_le, gt_iff_lt, Bool.not_eq_true, Bool.and_eq_true, Bool.or_eq_true, forall_const, imp_false, implies_true, Bool.true_eq_false, Bool.false_eq_true, false_implies, true_implies, Int.not_lt, Int.not_le, Int.zero_sub]
  repeat' (first | intro _ | apply And.intro)
  all_goals (try (repeat' (first | exact rfl | apply eq_pair | apply eq_arc | apply eq_num | apply eq_dec | apply eq_no | apply eq_yes)))
  all_goals (unfold Fits; omega)
omit hst in
theorem mul_tree {n u : Int} (h : MulOk n u) : 
    bcase (u == 0) False
    (bcase (u == 0) False
    (bcase (decide (n.tmod u < 0)) (bcase (decide (IntKind.i64.wrap (2 * IntKind.i64.wrap (n.tmod u + u)) ≥ u)) (Value.int .i64 (IntKind.i64.wrap (IntKind.i64.wrap (IntKind.i64.wrap (n.tdiv u) - 1) + 1)) = num (mulI n u)) (Value.int .i64 (IntKind.i64.wrap (IntKind.i64.wrap (n.tdiv u) - 1)) = num (mulI n u)))
    (bcase (decide (IntKind.i64.wrap (2 * n.tmod u) ≥ u)) (Value.int .i64 (IntKind.i64.wrap (IntKind.i64.wrap (n.tdiv u) + 1)) = num (mulI n u)) (Value.int .i64 (IntKind.i64.wrap (n.tdiv u)) = num (mulI n u))))) := by
  obtain ⟨⟨n0, n1⟩, u0, u1⟩ := h
  have hz : (u == 0) = false := beq_eq_false_iff_ne.mpr (by omega)
  have q := ediv_bd (a := n) (b := u) u0 n0 n1 (by decide) (by decide)
  have r0 := Int.emod_nonneg n (b := u) (by omega)
  have r1 := Int.emod_lt_of_pos n (b := u) (by omega)
  rw [hz, bcase_false, bcase_false]
  unfold mulI
  rcases tdiv_case n u (by omega) with ⟨c, e⟩ | ⟨c, e⟩
  · have e2 : n.tmod u = n % u - u := by rcases tmod_case n u (by omega) with ⟨_, e⟩ | ⟨c', _⟩ <;> omega
    rw [decide_eq_true c, bcase_true, e, e2]
    generalize n / u = Q at *
    generalize n % u = R at *
    rw [wrap_in (n := R - u + u) (by omega), wrap_in (n := 2 * (R - u + u)) (by omega), wrap_in (n := Q + 1) (by omega), wrap_in (n := Q + 1 - 1) (by omega), wrap_in (n := Q + 1 - 1 + 1) (by omega)]
    refine bcase_iff.mpr ⟨fun k => ?_, fun k => ?_⟩
    · have k := of_decide_eq_true k
      rw [if_pos (by omega)]; exact eq_num (by omega)
    · have k := of_decide_eq_false k
      rw [if_neg (by omega)]; exact eq_num (by omega)
  · have e2 : n.tmod u = n % u := by rcases tmod_case n u (by omega) with ⟨c', _⟩ | ⟨_, e⟩ <;> omega
    rw [decide_eq_false (by omega), bcase_false, e, e2]
    generalize n / u = Q at *
    generalize n % u = R at *
    rw [wrap_in (n := 2 * R) (by omega), wrap_in (n := Q) (by omega), wrap_in (n := Q + 1) (by omega)]
    refine bcase_iff.mpr ⟨fun k => ?_, fun k => ?_⟩
    · have k := of_decide_eq_true k
      rw [if_pos (by omega)]
    · have k := of_decide_eq_false k
      rw [if_neg (by omega)]
theorem c_multiple (n u : Int) (h : MulOk n u) : Ans Tryd.prog Φ 42 [num n, num u] (num (mulI n u)) := fn_by hst Sound.nil (vc_multiple n u _) (mul_tree h)
omit hst in
/-- The ways of rounding. -/
theorem ways (lo hi u : Int) : (¬ Unit u ∧ ¬ okR lo hi u ∧ erR lo hi u = 2) ∨ (Unit u ∧ ¬ (Fits lo ∧ Fits hi) ∧ ¬ okR lo hi u ∧ erR lo hi u = 5) ∨
    (Unit u ∧ (Fits lo ∧ Fits hi) ∧ hi < lo ∧ ¬ okR lo hi u ∧ erR lo hi u = 1) ∨ (Unit u ∧ (Fits lo ∧ Fits hi) ∧ lo ≤ hi ∧ okR lo hi u ∧ erR lo hi u = 0) := by
  unfold erR okR
  by_cases a : Unit u
  · by_cases b : Fits lo ∧ Fits hi
    · by_cases c : lo ≤ hi
      · exact .inr (.inr (.inr ⟨a, b, c, ⟨a, b, c⟩, by rw [pick_yes a, pick_yes b, pick_yes c]⟩))
      · exact .inr (.inr (.inl ⟨a, b, by omega, fun h => c h.2.2, by rw [pick_yes a, pick_yes b, pick_no c]⟩))
    · exact .inr (.inl ⟨a, b, fun h => b h.2.1, by rw [pick_yes a, pick_no b]⟩)
  · exact .inl ⟨a, fun h => a h.1, pick_no a⟩
theorem s_B : Sound Tryd.prog Φ ΓB :=
  Sound.cons (by kernel_rfl) (fun args p v h _ => by unfold sBig at h; split at h <;> cases h; exact c_big hst _)
  (Sound.cons (by kernel_rfl) (fun args p v h hp => by unfold sMultiple at h; split at h <;> cases h; exact c_multiple hst _ _ hp) Sound.nil)
theorem c_rounded (lo hi u : Int) : Ans Tryd.prog Φ 26 [num lo, num hi, num u] (.tuple ⟨[num (gate (okR lo hi u) (mulI lo u)), num (gate (okR lo hi u) (mulI hi u)), num (erR lo hi u)]⟩) := by
  refine fn_by hst (s_B hst) (vc_rounded lo hi u _) ?_
  rcases ways lo hi u with ⟨a, b, c⟩ | ⟨a, b, c, d⟩ | ⟨a, b, c, d, e⟩ | ⟨a, b, c, d, e⟩
  · rw [gate_no b, gate_no b, c]
    unfold Unit at a
    refine bcase_iff.mpr ⟨fun _ => rfl, fun q => ?_⟩
    have q := of_decide_eq_false q
    rw [decide_eq_true (by omega), bcase_true]
  · rw [gate_no c, gate_no c, d, decide_eq_false (by unfold Unit at a; omega), bcase_false, decide_eq_false (by unfold Unit at a; omega), bcase_false]
    refine ⟨trivial, bcase_iff.mpr ⟨fun _ => rfl, fun q => ⟨trivial, ?_⟩⟩⟩
    have q : Fits lo := by simpa using q
    have nb : ¬ Fits hi := fun k => b ⟨q, k⟩
    rw [decide_eq_true nb, bcase_true]
  · rw [gate_no d, gate_no d, e, decide_eq_false (by unfold Unit at a; omega), bcase_false, decide_eq_false (by unfold Unit at a; omega), bcase_false]
    rw [decide_eq_false (fun k => k b.1), bcase_false, decide_eq_false (fun k => k b.2), bcase_false, decide_eq_true (by omega), bcase_true]
    exact ⟨trivial, trivial, rfl⟩
  · rw [gate_yes d, gate_yes d, e, decide_eq_false (by unfold Unit at a; omega), bcase_false, decide_eq_false (by unfold Unit at a; omega), bcase_false]
    rw [decide_eq_false (fun k => k b.1), bcase_false, decide_eq_false (fun k => k b.2), bcase_false, decide_eq_false (by omega), bcase_false]
    exact ⟨trivial, trivial, ⟨b.1, a⟩, ⟨b.2, a⟩, rfl⟩
omit hst in
theorem er1_eq (lo hi u : Int) : er1 lo hi u = if okR lo hi u then (if mulI lo u = mulI hi u then 0 else 24) else erR lo hi u := rfl
end Go.Proofs.YtobmbbmompoliaaDoor
