/- The reference's functions above the digits. -/
import Derived.Test.YtmghbedgfnlpoaaDoorCtS
import Derived.Test.YtmghbedgfnlpoaaDoorVcU
import Derived.Test.YtmghbedgfnlpoaaDoorCtQ
namespace Go.Proofs.YtmghbedgfnlpoaaDoor
open Go Go.Abs Go.RowKit
set_option linter.unusedVariables false
set_option linter.unusedSimpArgs false
theorem len0 {l : List Int} (h : Can l) : ((l.length : Int) = 0) ↔ nv l = 0 := by
  have := dig_nil (v := nv l)
  rw [← h.1] at this
  exact this
theorem numV_neg {l : List Int} {s : Bool} (h : Can l) : numV l (!decide ((l.length : Int) = 0) && !s) = -numV l s := by
  unfold numV
  by_cases q : (l.length : Int) = 0
  · rw [decide_eq_true q, (len0 h).mp q]
    cases s <;> rfl
  · rw [decide_eq_false q]
    cases s
    · rfl
    · simp
theorem canN_neg {l : List Int} {s : Bool} (h : CanN l s) : CanN l (!decide ((l.length : Int) = 0) && !s) := by
  refine ⟨h.1, h.2.1, fun q => ?_⟩
  intro e
  rw [decide_eq_true ((len0 h.1).mpr e)] at q
  cases q
theorem numV_dig (v : Int) : numV (dig v.natAbs) (decide (v < 0)) = v := by
  unfold numV
  rw [nv_dig]
  by_cases h : v < 0
  · rw [decide_eq_true h, if_pos rfl]; omega
  · rw [decide_eq_false h, if_neg (by decide)]; omega
theorem canN_dig {v : Int} (h : v.natAbs < 268435456 ^ 40) : CanN (dig v.natAbs) (decide (v < 0)) := by
  refine ⟨Can_dig (by omega), dig_length 40 h, fun q => ?_⟩
  rw [nv_dig]
  have := of_decide_eq_true q
  omega
theorem can_dig40 {v : Nat} (h : v < 268435456 ^ 40) : Can (dig v) := Can_dig (by omega)
theorem numV_abs {l : List Int} {s : Bool} : (numV l s).natAbs = nv l := by
  unfold numV; cases s
  · rw [if_neg (by decide)]; omega
  · rw [if_pos rfl]; omega
theorem numV_lt {l : List Int} {s : Bool} (h : CanN l s) : (numV l s).natAbs < 268435456 ^ 40 := by
  rw [numV_abs]; exact nv_lt h.1 h.2.1
theorem I64_40 {n : Int} (h : I64 n) : n.natAbs < 268435456 ^ 40 := by unfold I64 at h; omega
/-- The sign of a number with these digits. -/
theorem sgn_of {l : List Int} {s : Bool} {v : Int} (h : Can l) (hv : v.natAbs = nv l) (hs : nv l ≠ 0 → (s = true ↔ v < 0)) : (!decide ((l.length : Int) = 0) && s) = decide (v < 0) := by
  by_cases q : nv l = 0
  · rw [decide_eq_true ((len0 h).mpr q), decide_eq_false (by omega)]; rfl
  · rw [decide_eq_false (fun e => q ((len0 h).mp e))]
    have := hs q
    cases s
    · rw [decide_eq_false (fun e => by have := this.mpr e; cases this)]; rfl
    · rw [decide_eq_true (this.mp rfl)]; rfl
theorem sgn_mul {A B : Int} (h : 0 < A * B) (s t : Bool) : ((s != t) = true ↔ (if s = true then -A else A) * (if t = true then -B else B) < 0) := by
  cases s <;> cases t <;> simp [Int.neg_mul, Int.mul_neg] <;> omega
theorem fdiv_is {a b q : Int} (hb : 0 < b) (h1 : q * b ≤ a) (h2 : a < (q + 1) * b) : a.fdiv b = q := by
  rw [Int.fdiv_eq_ediv_of_nonneg _ (by omega)]
  have k1 : q ≤ a / b := (Int.le_ediv_iff_mul_le hb).mpr h1
  have k2 : a / b < q + 1 := (Int.ediv_lt_iff_lt_mul hb).mpr h2
  omega
theorem div_two (A B : Nat) (hB : B ≠ 0) : (A / B) * B ≤ A ∧ A < (A / B + 1) * B := by
  have h1 := Nat.div_add_mod A B
  have h2 := Nat.mod_lt A (Nat.pos_of_ne_zero hB)
  have e : B * (A / B) = (A / B) * B := Nat.mul_comm _ _
  rw [Nat.add_mul, Nat.one_mul]
  omega
variable {Φ : World → Prop} (hst : ∀ w w', Φ w → Below w.heap.size w w' → Φ w')
include hst
theorem c_mul (l m : List Int) (s t : Bool) (h1 : CanN l s) (h2 : CanN m t) (h3 : PrOk l m) : RAns Tryd.prog Φ 38 [.agg [dR l, .v (.bool s)], .agg [dR m, .v (.bool t)]] [numR (numV l s * numV m t)] := by
  refine rfn_by hst (s_Pl hst) (vc_mul l m s t) ?_
  have e : (numV l s * numV m t).natAbs = nv l * nv m := by rw [Int.natAbs_mul, numV_abs, numV_abs]
  have big : Can (dig (nv l * nv m)) := can_dig40 h3
  refine tk (tk ⟨⟨h1.1, h2.1⟩, tk ⟨big, tke (by rw [e]) ⟨?_, trivial⟩⟩⟩)
  congr 1
  refine sgn_of big (by rw [nv_dig, e]) (fun q => ?_)
  rw [nv_dig] at q
  have a0 : nv l ≠ 0 := fun q' => q (by rw [q']; simp)
  have b0 : nv m ≠ 0 := fun q' => q (by rw [q']; simp)
  have pos : (0 : Int) < (nv l : Int) * (nv m : Int) := Int.mul_pos (by omega) (by omega)
  exact sgn_mul pos s t
omit hst in
theorem fdiv_le {a b : Int} (hb : b ≠ 0) : (a.fdiv b).natAbs ≤ a.natAbs := by
  have key : ∀ x y : Int, 0 < y → (x.fdiv y).natAbs ≤ x.natAbs := fun x y hy => by
    rw [Int.fdiv_eq_ediv_of_nonneg _ (by omega)]
    have h1 := Int.ediv_mul_le x (show y ≠ 0 by omega)
    have h2 := Int.lt_ediv_add_one_mul_self x hy
    rcases Int.lt_or_le x 0 with q | q
    · have h3 : x / y < 0 := Int.ediv_neg_of_neg_of_pos q hy
      have h4 : x ≤ x / y := by
        rw [Int.le_ediv_iff_mul_le hy]
        have := Int.mul_le_mul_of_nonpos_left (show x ≤ 0 by omega) (show (1 : Int) ≤ y by omega)
        omega
      omega
    · have h3 : 0 ≤ x / y := Int.ediv_nonneg q (by omega)
      have h4 : x / y ≤ x := Int.ediv_le_self y q
      omega
  rcases Int.lt_or_le 0 b with q | q
  · exact key a b q
  · have := key (-a) (-b) (by omega)
    rw [Int.neg_fdiv_neg] at this
    omega
end Go.Proofs.YtmghbedgfnlpoaaDoor
