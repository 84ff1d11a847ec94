/- The reference's functions above the digits. -/
import Derived.Test.YtmghbedgfnlpoaaCtS
import Derived.Test.YtmghbedgfnlpoaaVcU
import Derived.Test.YtmghbedgfnlpoaaCtQ
namespace Go.Proofs.Ytmghbedgfnlpoaa
open Go Go.Abs Go.RowKit
set_option linter.unusedVariables false
set_option linter.unusedSimpArgs false
theorem len0 {l : List Int} (h : Can l) : ((l.length : Int) = 0) ↔ nv l = 0 := by
  have := dig_nil (v := nv l)
  rw [← h.1] at this
  exact this
theorem numV_neg {l : List Int} {s : Bool} (h : Can l) : numV l (!decide ((l.length : Int) = 0) && !s) = -numV l s := by
  unfold numV
  by_cases q : (l.length : Int) = 0
  · rw [decide_eq_true q, (len0 h).mp q]
    cases s <;> rfl
  · rw [decide_eq_false q]
    cases s
    · rfl
    · simp
theorem canN_neg {l : List Int} {s : Bool} (h : CanN l s) : CanN l (!decide ((l.length : Int) = 0) && !s) := by
  refine ⟨h.1, h.2.1, fun q => ?_⟩
  intro e
  rw [decide_eq_true ((len0 h.1).mpr e)] at q
  cases q
theorem numV_dig (v : Int) : numV (dig v.natAbs) (decide (v < 0)) = v := by
  unfold numV
  rw [nv_dig]
  by_cases h : v < 0
  · rw [decide_eq_true h, if_pos rfl]; omega
  · rw [decide_eq_false h, if_neg (by decide)]; omega
theorem canN_dig {v : Int} (h : v.natAbs < 268435456 ^ 40) : CanN (dig v.natAbs) (decide (v < 0)) := by
  refine ⟨Can_dig (by omega), dig_length 40 h, fun q => ?_⟩
  rw [nv_dig]
  have := of_decide_eq_true q
  omega
theorem can_dig40 {v : Nat} (h : v < 268435456 ^ 40) : Can (dig v) := Can_dig (by omega)
theorem numV_abs {l : List Int} {s : Bool} : (numV l s).natAbs = nv l := by
  unfold numV; cases s
  · rw [if_neg (by decide)]; omega
  · rw [if_pos rfl]; omega
theorem numV_lt {l : List Int} {s : Bool} (h : CanN l s) : (numV l s).natAbs < 268435456 ^ 40 := by
  rw [numV_abs]; exact nv_lt h.1 h.2.1
theorem I64_40 {n : Int} (h : I64 n) : n.natAbs < 268435456 ^ 40 := by unfold I64 at h; omega
/-- The sign of a number with these digits. -/
theorem sgn_of {l : List Int} {s : Bool} {v : Int} (h : Can l) (hv : v.natAbs = nv l) (hs : nv l ≠ 0 → (s = true ↔ v < 0)) : (!decide ((l.length : Int) = 0) && s) = decide (v < 0) := by
  by_cases q : nv l = 0
  · rw [decide_eq_true ((len0 h).mpr q), decide_eq_false (by omega)]; rfl
  · rw [decide_eq_false (fun e => q ((len0 h).mp e))]
    have := hs q
    cases s
    · rw [decide_eq_false (fun e => by have := this.mpr e; cases this)]; rfl
    · rw [decide_eq_true (this.mp rfl)]; rfl
theorem sgn_mul {A B : Int} (h : 0 < A * B) (s t : Bool) : ((s != t) = true ↔ (if s = true then -A else A) * (if t = true then -B else B) < 0) := by
  cases s <;> cases t <;> simp [Int.neg_mul, Int.mul_neg] <;> omega
theorem fdiv_is {a b q : Int} (hb : 0 < b) (h1 : q * b ≤ a) (h2 : a < (q + 1) * b) : a.fdiv b = q := by
  rw [Int.fdiv_eq_ediv_of_nonneg _ (by omega)]
  have k1 : q ≤ a / b := (Int.le_ediv_iff_mul_le hb).mpr h1
  have k2 : a / b < q + 1 := (Int.ediv_lt_iff_lt_mul hb).mpr h2
  omega
theorem div_two (A B : Nat) (hB : B ≠ 0) : (A / B) * B ≤ A ∧ A < (A / B + 1) * B := by
  have h1 := Nat.div_add_mod A B
  have h2 := Nat.mod_lt A (Nat.pos_of_ne_zero hB)
  have e : B * (A / B) = (A / B) * B := Nat.mul_comm _ _
  rw [Nat.add_mul, Nat.one_mul]
  omega
variable {Φ : World → Prop} (hst : ∀ w w', Φ w → Below w.heap.size w w' → Φ w')
include hst
theorem c_minus (l : List Int) (s : Bool) (h : Can l) : RAns Try.prog Φ 33 [.agg [dR l, .v (.bool s)]] [.agg [.same 0, .v (.bool (!decide ((l.length : Int) = 0) && !s))]] := by
  refine rfn_by hst (Sound.rcons (by kernel_rfl) (fun ads p rds h hp => by unfold sSign at h; split at h <;> cases h; exact c_sign hst _ _) Sound.nil) (vc_minus l s) ?_
  exact tk ⟨h, rfl, rfl, trivial⟩
theorem c_mul (l m : List Int) (s t : Bool) (h1 : CanN l s) (h2 : CanN m t) (h3 : PrOk l m) : RAns Try.prog Φ 15 [.agg [dR l, .v (.bool s)], .agg [dR m, .v (.bool t)]] [numR (numV l s * numV m t)] := by
  refine rfn_by hst (s_Pl hst) (vc_mul l m s t) ?_
  have e : (numV l s * numV m t).natAbs = nv l * nv m := by rw [Int.natAbs_mul, numV_abs, numV_abs]
  have big : Can (dig (nv l * nv m)) := can_dig40 h3
  refine tk (tk ⟨⟨h1.1, h2.1⟩, tk ⟨big, tke (by rw [e]) ⟨?_, trivial⟩⟩⟩)
  congr 1
  refine sgn_of big (by rw [nv_dig, e]) (fun q => ?_)
  rw [nv_dig] at q
  have a0 : nv l ≠ 0 := fun q' => q (by rw [q']; simp)
  have b0 : nv m ≠ 0 := fun q' => q (by rw [q']; simp)
  have pos : (0 : Int) < (nv l : Int) * (nv m : Int) := Int.mul_pos (by omega) (by omega)
  exact sgn_mul pos s t
theorem c_compareR (l m : List Int) (s t : Bool) (h1 : CanN l s) (h2 : CanN m t) : RAns Try.prog Φ 34 [.agg [dR l, .v (.bool s)], .agg [dR m, .v (.bool t)]] [.one (.v (.int .i64 (ordI (numV l s) (numV m t))))] := by
  refine rfn_by hst (Sound.rcons (by kernel_rfl) (fun ads p rds h hp => by unfold sPlus at h; split at h <;> cases h; exact c_plus hst _ _ _ _ hp.1 hp.2)
    (Sound.rcons (by kernel_rfl) (fun ads p rds h hp => by unfold sMinus at h; split at h <;> cases h; exact c_minus hst _ _ hp) Sound.nil)) (vc_compareR l m s t) ?_
  refine tk ⟨h2.1, tk (tk ⟨⟨h1, canN_neg h2⟩, ?_⟩)⟩
  rw [numV_neg h2.1]
  generalize numV l s = x
  generalize numV m t = y
  unfold ordI
  refine bcase_iff.mpr ⟨fun q => ⟨?_, trivial⟩, fun q => bcase_iff.mpr ⟨fun k => ⟨?_, trivial⟩, fun k => ⟨?_, trivial⟩⟩⟩
  · have q := dig_nil.mp (eq_of_beq q)
    rw [if_neg (by omega), if_neg (by omega)]
  · have k := of_decide_eq_true k
    rw [if_pos (by omega)]
  · have k := of_decide_eq_false k
    have q : ¬ (x + -y).natAbs = 0 := fun e => by rw [dig_nil.mpr e] at q; cases q
    rw [if_neg (by omega), if_pos (by omega)]
theorem c_down (l m : List Int) (s t : Bool) (h1 : CanN l s) (h2 : CanN m t) (h0 : nv m ≠ 0) : RAns Try.prog Φ 38 [.agg [dR l, .v (.bool s)], .agg [dR m, .v (.bool t)]] [numR ((numV l s).fdiv (numV m t))] := by
  refine rfn_by hst (Sound.rcons (by kernel_rfl) (fun ads p rds h hp => by unfold sOver at h; split at h <;> cases h; exact c_over hst _ _ hp.1 hp.2.1 hp.2.2.1 hp.2.2.2)
    (Sound.rcons (by kernel_rfl) (fun ads p rds h hp => by unfold sSum at h; split at h <;> cases h; exact c_sum hst _ _ hp.1 hp.2)
    (Sound.rcons (by kernel_rfl) (fun ads p rds h hp => by unfold sSign at h; split at h <;> cases h; exact c_sign hst _ _) Sound.nil))) (vc_down l m s t) ?_
  have la := nv_lt h1.1 h1.2.1
  obtain ⟨d1, d2⟩ := div_two (nv l) (nv m) h0
  have dl : nv l / nv m ≤ nv l := Nat.div_le_self _ _
  have eA : ((nv l : Nat) : Int) = (nv l : Int) := rfl
  have rm := Nat.div_add_mod (nv l) (nv m)
  have hB : (0 : Int) < (nv m : Int) := by omega
  have i1 : ((nv l / nv m : Nat) : Int) * (nv m : Int) ≤ (nv l : Int) := by exact_mod_cast d1
  have i2 : (nv l : Int) < (((nv l / nv m : Nat) : Int) + 1) * (nv m : Int) := by exact_mod_cast d2
  have i3 : ((nv l : Nat) : Int) = ((nv l / nv m : Nat) : Int) * (nv m : Int) + ((nv l % nv m : Nat) : Int) := by
    rw [← Int.natCast_mul, ← Int.natCast_add, Nat.mul_comm, rm]
  have mlt := Nat.mod_lt (nv l) (Nat.pos_of_ne_zero h0)
  have same : s = t → (numV l s).fdiv (numV m t) = ((nv l / nv m : Nat) : Int) := fun q => by
    subst q
    unfold numV
    cases s
    · exact fdiv_is hB i1 i2
    · simp only [if_true, Int.neg_fdiv_neg]; exact fdiv_is hB i1 i2
  have other : s ≠ t → (numV l s).fdiv (numV m t) = (-(nv l : Int)).fdiv (nv m) := fun q => by
    unfold numV
    cases s <;> cases t <;> first | (exact absurd rfl q) | rfl | skip
    simp only [Bool.false_eq_true, if_false, if_true]
    rw [← Int.neg_fdiv_neg, Int.neg_neg]
  generalize hQ : nv l / nv m = Q at *
  generalize hR : nv l % nv m = R at *
  generalize hA : nv l = A at *
  generalize hBB : nv m = B at *
  refine tk (tk ?_)
  rw [hA, hBB]
  refine ⟨⟨h1.1, h2.1, h2.2.1, h0⟩, ?_⟩
  have cQ : Can (dig Q) := can_dig40 (by omega)
  rw [hQ, hR]
  refine bcase_iff.mpr ⟨fun q => tke ?_ ⟨?_, trivial⟩, fun q => bcase_iff.mpr ⟨fun q2 => tk ⟨⟨cQ, Can_one (by decide) (by decide)⟩, ?_⟩, fun q2 => tk ⟨cQ, tke ?_ ⟨?_, trivial⟩⟩⟩⟩
  · rw [same (by simpa using q), Int.natAbs_natCast]
  · rw [same (by simpa using q), decide_eq_false (by omega)]
  · have q : s ≠ t := by simpa using q
    have q2 : R ≠ 0 := fun e => by subst e; rw [dig_zero] at q2; cases q2
    have e : (numV l s).fdiv (numV m t) = -((Q : Int) + 1) := by
      rw [other q]
      refine fdiv_is hB ?_ ?_
      · rw [Int.neg_mul]; omega
      · rw [show -((Q : Int) + 1) + 1 = -(Q : Int) by omega, Int.neg_mul]; omega
    have cQ1 : Can (dig (Q + 1)) := Can_dig (by omega)
    rw [nv_dig]
    refine tk ⟨cQ1, tke ?_ ⟨?_, trivial⟩⟩
    · rw [e]; congr 1 <;> omega
    · rw [e]
      congr 1
      exact sgn_of cQ1 (by rw [nv_dig]; omega) (fun _ => ⟨fun _ => by omega, fun _ => rfl⟩)
  · have q : s ≠ t := by simpa using q
    have q2 : R = 0 := by
      have := of_decide_eq_false q2
      exact dig_nil.mp (by omega)
    have e : (numV l s).fdiv (numV m t) = -(Q : Int) := by
      rw [other q]
      refine fdiv_is hB ?_ ?_
      · rw [Int.neg_mul]; omega
      · rw [Int.add_mul, Int.neg_mul]; omega
    rw [e]; congr 1; omega
  · have q : s ≠ t := by simpa using q
    have q2 : R = 0 := by
      have := of_decide_eq_false q2
      exact dig_nil.mp (by omega)
    have e : (numV l s).fdiv (numV m t) = -(Q : Int) := by
      rw [other q]
      refine fdiv_is hB ?_ ?_
      · rw [Int.neg_mul]; omega
      · rw [Int.add_mul, Int.neg_mul]; omega
    rw [e]
    congr 1
    exact sgn_of cQ (by rw [nv_dig]; omega) (fun q => by rw [nv_dig] at q; exact ⟨fun _ => by omega, fun _ => rfl⟩)
theorem s_Up : Sound Try.prog Φ ΓUp :=
  Sound.rcons (by kernel_rfl) (fun ads p rds h hp => by unfold sDown at h; split at h <;> cases h; exact c_down hst _ _ _ _ hp.1 hp.2.1 hp.2.2)
    (Sound.rcons (by kernel_rfl) (fun ads p rds h hp => by unfold sMinus at h; split at h <;> cases h; exact c_minus hst _ _ hp) Sound.nil)
omit hst in
theorem fdiv_le {a b : Int} (hb : b ≠ 0) : (a.fdiv b).natAbs ≤ a.natAbs := by
  have key : ∀ x y : Int, 0 < y → (x.fdiv y).natAbs ≤ x.natAbs := fun x y hy => by
    rw [Int.fdiv_eq_ediv_of_nonneg _ (by omega)]
    have h1 := Int.ediv_mul_le x (show y ≠ 0 by omega)
    have h2 := Int.lt_ediv_add_one_mul_self x hy
    rcases Int.lt_or_le x 0 with q | q
    · have h3 : x / y < 0 := Int.ediv_neg_of_neg_of_pos q hy
      have h4 : x ≤ x / y := by
        rw [Int.le_ediv_iff_mul_le hy]
        have := Int.mul_le_mul_of_nonpos_left (show x ≤ 0 by omega) (show (1 : Int) ≤ y by omega)
        omega
      omega
    · have h3 : 0 ≤ x / y := Int.ediv_nonneg q (by omega)
      have h4 : x / y ≤ x := Int.ediv_le_self y q
      omega
  rcases Int.lt_or_le 0 b with q | q
  · exact key a b q
  · have := key (-a) (-b) (by omega)
    rw [Int.neg_fdiv_neg] at this
    omega
theorem c_up (l m : List Int) (s t : Bool) (h1 : CanN l s) (h2 : CanN m t) (h0 : nv m ≠ 0) : RAns Try.prog Φ 42 [.agg [dR l, .v (.bool s)], .agg [dR m, .v (.bool t)]] [numR (-((-numV l s).fdiv (numV m t)))] := by
  refine rfn_by hst (s_Up hst) (vc_up l m s t) ?_
  refine tk ⟨h1.1, tk (tk ⟨⟨canN_neg h1, h2, h0⟩, ?_⟩)⟩
  rw [numV_neg h1.1]
  have lt := numV_lt h1
  have nz : numV m t ≠ 0 := fun e => h0 (by rw [← numV_abs (l := m) (s := t), e]; rfl)
  have le := fdiv_le (a := -numV l s) nz
  have cn : CanN (dig ((-numV l s).fdiv (numV m t)).natAbs) (decide ((-numV l s).fdiv (numV m t) < 0)) := canN_dig (by omega)
  generalize (-numV l s).fdiv (numV m t) = q at *
  refine tk ⟨cn.1, tke ?_ ⟨?_, trivial⟩⟩
  · rw [Int.natAbs_neg]
  · congr 1
    refine sgn_of cn.1 (by rw [nv_dig, Int.natAbs_neg]) (fun h => ?_)
    rw [nv_dig] at h
    by_cases k : q < 0
    · rw [decide_eq_true k]; simp; omega
    · rw [decide_eq_false k]; simp; omega
end Go.Proofs.Ytmghbedgfnlpoaa
