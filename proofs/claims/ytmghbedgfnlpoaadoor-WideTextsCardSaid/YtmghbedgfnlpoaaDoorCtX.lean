/- The reference's functions. -/
import Derived.Test.YtmghbedgfnlpoaaDoorVcX
import Derived.Test.YtmghbedgfnlpoaaDoorDigs
namespace Go.Proofs.YtmghbedgfnlpoaaDoor
open Go Go.Abs Go.RowKit
set_option linter.unusedVariables false
set_option linter.unusedSimpArgs false
theorem inB_yes {j : Int} {n : Nat} (h0 : 0 ≤ j) (h1 : j < n) : inB j n = true := by unfold inB; simp [h0, h1]
theorem blt_yes {j n : Nat} (h : j < n) : j.blt n = true := Nat.ble_eq_true_of_le h
theorem cap_yes {n : Nat} (h : n ≤ 1000) : capOk n 8 = true := by
  unfold capOk maxLen
  rw [Nat.ble_eq_true_of_le (by omega), Nat.ble_eq_true_of_le (by omega)]
  rfl
/-- Of lists of one length the first digit from the end that differs says which is less. -/
theorem dvI_split {a : List Int} {i : Nat} (h : i < a.length) : dvI a = dvI (a.take i) + 268435456 ^ i * (a.getD i 0 + 268435456 * dvI (a.drop (i + 1))) := by
  have e : a = a.take i ++ a.drop i := (List.take_append_drop i a).symm
  have e2 : dvI a = dvI (a.take i ++ a.drop i) := by rw [List.take_append_drop]
  rw [e2, dvI_append, List.length_take, Nat.min_eq_left (by omega), drop_first h, dvI]
theorem pow_pos' (i : Nat) : (0 : Int) < 268435456 ^ i := Int.pow_pos (by decide)
theorem dvI_order {a b : List Int} {i : Nat} (ha : Dgs a) (hb : Dgs b) (h : i < a.length) (hl : a.length = b.length) (hd : a.drop (i + 1) = b.drop (i + 1)) (hlt : a.getD i 0 < b.getD i 0) : dvI a < dvI b := by
  rw [dvI_split h, dvI_split (show i < b.length by omega), ← hd]
  have t1 := dvI_lt (Dgs_take ha i)
  have t2 := dvI_nonneg (Dgs_take hb i)
  rw [List.length_take, Nat.min_eq_left (by omega)] at t1
  have p := pow_pos' i
  have : (268435456 : Int) ^ i * (a.getD i 0 + 268435456 * dvI (a.drop (i + 1))) + 268435456 ^ i ≤ 268435456 ^ i * (b.getD i 0 + 268435456 * dvI (a.drop (i + 1))) := by
    have := Int.mul_le_mul_of_nonneg_left (show a.getD i 0 + 268435456 * dvI (a.drop (i + 1)) + 1 ≤ b.getD i 0 + 268435456 * dvI (a.drop (i + 1)) by omega) (Int.le_of_lt p)
    rw [Int.mul_add, Int.mul_one] at this
    exact this
  omega
/-- Of digits without zeros at the end the longer ones are greater. -/
theorem dig_long : ∀ {k v : Nat}, k < (dig v).length → 268435456 ^ k ≤ v
  | 0, v, h => by
    by_cases q : v = 0
    · subst q; rw [dig_zero] at h; simp at h
    · rw [Nat.pow_zero]; omega
  | k + 1, v, h => by
    by_cases q : v = 0
    · subst q; rw [dig_zero] at h; simp at h
    · rw [dig_pos q, List.length_cons] at h
      have := dig_long (k := k) (v := v / 268435456) (by omega)
      rw [Nat.pow_succ]
      omega
theorem dig_short {v : Nat} : v < 268435456 ^ (dig v).length := by
  have h := dvI_lt (Dgs_dig v)
  rw [dvI_dig] at h
  have e : ((268435456 ^ (dig v).length : Nat) : Int) = 268435456 ^ (dig v).length := Int.natCast_pow _ _
  omega
theorem Can_len {a b : List Int} (ha : Can a) (hb : Can b) (h : a.length < b.length) : nv a < nv b := by
  have h1 := dig_short (v := nv a)
  rw [← ha.1] at h1
  have h2 := dig_long (k := a.length) (v := nv b) (by rw [← hb.1]; exact h)
  omega
variable {Φ : World → Prop} (hst : ∀ w w', Φ w → Below w.heap.size w w' → Φ w')
include hst
theorem c_trim (l : List Int) (hd : Dgs l) (hl : l.length ≤ 200) : RAns Tryd.prog Φ 40 [.one (dR l)] [.one (dR (dig (nv l)))] := by
  refine rfn_by hst Sound.nil (vc_trim l) ?_
  have fin : ∀ i : Nat, i ≤ l.length → dvI (l.take i) = dvI l → (i = 0 ∨ l.getD (i - 1) 0 ≠ 0) → l.take i = dig (nv l) := fun i h1 h2 h3 => by
    have e : nv l = nv (l.take i) := by unfold nv; rw [h2]
    rw [e]
    rcases h3 with h3 | h3
    · subst h3; simp [nv, dvI, dig_zero]
    · cases i with
      | zero => simp [nv, dvI, dig_zero]
      | succ i =>
        have hi : i < l.length := by omega
        have ht := Dgs_take hd (i + 1)
        rw [take_last hi] at ht ⊢
        exact (dig_last ht (by simpa using h3)).symm
  have out : ∀ i : Nat, i ≤ l.length → dvI (l.take i) = dvI l → (i = 0 ∨ l.getD (i - 1) 0 ≠ 0) → bcase (decide (0 ≤ 0) && (decide (0 ≤ ((i : Nat) : Int)) && decide (((i : Nat) : Int) ≤ (l.length : Int))) && l.length.beq l.length) (0 + (((i : Nat) : Int).toNat - 0) ≤ l.length ∧ bcase (capOk (0 + (((i : Nat) : Int).toNat - 0)) 8) (0 + (((i : Nat) : Int).toNat - 0) = ([] ++ List.take (((i : Nat) : Int).toNat - 0) l).length ∧ [] ++ List.take (((i : Nat) : Int).toNat - 0) l = dig (nv l) ∧ True) False) False := fun i h1 h2 h3 => by
    have e1 : (decide (0 ≤ 0) && (decide (0 ≤ ((i : Nat) : Int)) && decide (((i : Nat) : Int) ≤ (l.length : Int))) && l.length.beq l.length) = true := by
      simp; omega
    simp only [e1, bcase_true, Int.toNat_natCast, Nat.sub_zero, Nat.zero_add, List.nil_append]
    rw [cap_yes (by omega), bcase_true]
    exact ⟨h1, by simp; omega, fin i h1 h2 h3, trivial⟩
  refine ⟨l.length, ⟨rfl, rfl, rfl, rfl, rfl, trivial⟩, ⟨Nat.le_refl _, by rw [List.take_length]⟩, fun i h => ?_⟩
  obtain ⟨h1, h2⟩ := h
  cases i with
  | zero => exact out 0 (Nat.zero_le _) h2 (.inl rfl)
  | succ i =>
    have hw : IntKind.i64.wrap (((i + 1 : Nat) : Int) - 1) = i := by rw [wrap_in (by omega)]; omega
    have hi : i < l.length := by omega
    have hp : decide (((i + 1 : Nat) : Int) > 0) = true := decide_eq_true (by omega)
    rw [hp, bcase_true, hw, inB_yes (by omega) (by omega), bcase_true, Int.toNat_natCast, blt_yes hi, bcase_true, bcase_iff]
    refine ⟨fun q => ⟨i, ⟨rfl, rfl, rfl, rfl, rfl, trivial⟩, ⟨by omega, ?_⟩, by omega⟩, fun q => out (i + 1) h1 h2 (.inr (by simpa using q))⟩
    have q : l.getD i 0 = 0 := by simpa using q
    rw [take_last hi, q, dvI_append] at h2
    simpa [dvI] using h2
theorem c_ofInt (n : Int) (hn : I64 n) : RAns Tryd.prog Φ 39 [.one (.v (.int .i64 n))] [numR n] := by
  refine rfn_by hst Sound.nil (vc_ofInt n) ?_
  refine ⟨(n, []), ⟨rfl, rfl, rfl, rfl, rfl, rfl, rfl, trivial⟩, ⟨hn, rfl, fun h => by show n ≤ 0; omega, fun h => by show 0 ≤ n; omega⟩, fun s h => ?_⟩
  obtain ⟨x, l⟩ := s
  obtain ⟨h1, h2, h3, h4⟩ := h
  dsimp only at h1 h2 h3 h4 ⊢
  have hx : -9223372036854775808 ≤ x ∧ x ≤ 9223372036854775807 := h1
  have hN : (dig n.natAbs).length ≤ 3 := dig_length 3 (by have : -9223372036854775808 ≤ n ∧ n ≤ 9223372036854775807 := hn; omega)
  have hlen : l.length + (dig x.natAbs).length ≤ 3 := by rw [← h2] at hN; simpa using hN
  refine bcase_iff.mpr ⟨fun hne => ?_, fun hz => ?_⟩
  · have hne : x ≠ 0 := by simpa using hne
    have hc : capOk (l.length + 1) 8 = true := cap_yes (by omega)
    have d1 : x.tdiv 268435456 = if x < 0 then -((x.natAbs / 268435456 : Nat) : Int) else ((x.natAbs / 268435456 : Nat) : Int) := by
      split
      · rw [show x = -((x.natAbs : Nat) : Int) by omega, Int.neg_tdiv, Int.tdiv_eq_ediv_of_nonneg (by omega)]; omega
      · rw [Int.tdiv_eq_ediv_of_nonneg (by omega)]; omega
    have d2 : x.tmod 268435456 = if x < 0 then -((x.natAbs % 268435456 : Nat) : Int) else ((x.natAbs % 268435456 : Nat) : Int) := by
      have := Int.mul_tdiv_add_tmod x 268435456
      rw [d1] at this
      split at this <;> rename_i q
      · rw [if_pos q]; omega
      · rw [if_neg q]; omega
    have w1 : IntKind.i64.wrap (x.tdiv 268435456) = x.tdiv 268435456 := wrap_in (by rw [d1]; split <;> omega)
    have go : ∀ d : Int, d = ((x.natAbs % 268435456 : Nat) : Int) → (∃ (s_1 : Int × List Int),
 (IntKind.i64.wrap (x.tdiv 268435456) = s_1.fst ∧ Value.tuple #[] = Value.tuple #[] ∧ Value.slice none 0 0 = Value.slice none 0 0 ∧ false = false ∧ l.length + 1 = s_1.snd.length ∧ l.length + 1 ≠ 0 ∧ decide (n < 0) = decide (n < 0) ∧ l ++ [d] = s_1.snd ∧ True) ∧
 (I64 s_1.fst ∧ s_1.snd ++ dig s_1.fst.natAbs = dig n.natAbs ∧ (n < 0 → s_1.fst ≤ 0) ∧ (¬n < 0 → 0 ≤ s_1.fst)) ∧ s_1.fst.natAbs < x.natAbs) := fun d e => by
      have na : (x.tdiv 268435456).natAbs = x.natAbs / 268435456 := by rw [d1]; split <;> omega
      refine ⟨(x.tdiv 268435456, l ++ [d]), ⟨w1, rfl, rfl, rfl, by simp, by omega, rfl, rfl, trivial⟩, ⟨?_, ?_, ?_, ?_⟩, ?_⟩
      · show I64 (x.tdiv 268435456); unfold I64; rw [d1]; split <;> omega
      · show l ++ [d] ++ dig (x.tdiv 268435456).natAbs = _
        rw [na, ← h2, e, dig_pos (show x.natAbs ≠ 0 by omega)]; simp
      · intro q; show x.tdiv 268435456 ≤ 0; have := h3 q; rw [d1]; split <;> omega
      · intro q; show 0 ≤ x.tdiv 268435456; have := h4 q; rw [d1]; split <;> omega
      · show (x.tdiv 268435456).natAbs < x.natAbs; rw [na]; omega
    refine bcase_iff.mpr ⟨fun q => ⟨rfl, bcase_iff.mpr ⟨fun _ => go _ ?_, fun q => by rw [hc] at q; cases q⟩⟩, fun q => ⟨rfl, bcase_iff.mpr ⟨fun _ => go _ ?_, fun q => by rw [hc] at q; cases q⟩⟩⟩
    · have q := of_decide_eq_true q
      rw [d2] at q ⊢
      split at q <;> rename_i k
      · rw [if_pos k, wrap_in (by omega)]; omega
      · omega
    · have q := of_decide_eq_false q
      rw [d2] at q ⊢
      split at q <;> rename_i k
      · rw [if_pos k]; omega
      · rw [if_neg k]
  · have hz : x = 0 := by simpa using hz
    subst hz
    rw [show (0 : Int).natAbs = 0 from rfl, dig_zero, List.append_nil] at h2
    exact ⟨rfl, h2, rfl, trivial⟩
theorem c_order (a b : List Int) (ha : Can a) (hb : Can b) : RAns Tryd.prog Φ 41 [.one (dR a), .one (dR b)] [.one (.v (.int .i64 (ordI (nv a) (nv b))))] := by
  refine rfn_by hst Sound.nil (vc_order a b) ?_
  have la := ha.2
  have lb := hb.2
  have lt_ : ∀ {x y : Nat}, x < y → ordI (x : Int) (y : Int) = -1 := fun {x y} h => by unfold ordI; rw [if_pos (by omega)]
  have gt_ : ∀ {x y : Nat}, y < x → ordI (x : Int) (y : Int) = 1 := fun {x y} h => by unfold ordI; rw [if_neg (by omega), if_pos (by omega)]
  have toN : ∀ {x y : List Int}, Dgs x → Dgs y → dvI x < dvI y → nv x < nv y := fun {x y} h1 h2 h => by have := nv_cast h1; have := nv_cast h2; omega
  refine bcase_iff.mpr ⟨fun hne => ?_, fun he => ?_⟩
  · have hne : a.length ≠ b.length := by
      have : ¬ (a.length : Int) = b.length := by simpa using hne
      omega
    refine bcase_iff.mpr ⟨fun q => ?_, fun q => ?_⟩
    · have q : a.length < b.length := by simpa using q
      exact ⟨by rw [lt_ (Can_len ha hb q)], trivial⟩
    · have q : b.length < a.length := by have := of_decide_eq_false q; omega
      exact ⟨by rw [gt_ (Can_len hb ha q)], trivial⟩
  · have he : a.length = b.length := by
      have : (a.length : Int) = b.length := by simpa using he
      omega
    refine ⟨a.length, ⟨rfl, rfl, rfl, rfl, rfl, wrap_in (by omega), rfl, rfl, trivial⟩, ⟨Nat.le_refl _, he, by rw [List.drop_length, he, List.drop_length]⟩, fun i h => ?_⟩
    obtain ⟨h1, h2, h3⟩ := h
    refine bcase_iff.mpr ⟨fun q => ?_, fun q => ?_⟩
    · cases i with
      | zero => have := of_decide_eq_true q; omega
      | succ i =>
        have hi : i < a.length := by omega
        have e : (((i + 1 : Nat) : Int) - 1) = i := by omega
        rw [e, inB_yes (by omega) (by omega), bcase_true, Int.toNat_natCast, blt_yes hi, bcase_true, inB_yes (by omega) (by omega), bcase_true, blt_yes (by omega), bcase_true]
        refine bcase_iff.mpr ⟨fun q => ?_, fun q1 => ?_⟩
        · exact ⟨by rw [lt_ (toN ha.dgs hb.dgs (dvI_order ha.dgs hb.dgs hi h2 h3 (of_decide_eq_true q)))], trivial⟩
        · rw [bcase_true, bcase_true, bcase_true, bcase_true]
          refine bcase_iff.mpr ⟨fun q => ?_, fun q2 => ?_⟩
          · exact ⟨by rw [gt_ (toN hb.dgs ha.dgs (dvI_order hb.dgs ha.dgs (by omega) h2.symm h3.symm (of_decide_eq_true q)))], trivial⟩
          · have ee : a.getD i 0 = b.getD i 0 := by have := of_decide_eq_false q1; have := of_decide_eq_false q2; omega
            refine ⟨i, ⟨rfl, rfl, rfl, rfl, rfl, wrap_in (by omega), rfl, rfl, trivial⟩, ⟨by omega, h2, ?_⟩, by omega⟩
            rw [drop_first hi, drop_first (show i < b.length by omega), ee, h3]
    · have : i = 0 := by have := of_decide_eq_false q; omega
      subst this
      have : a = b := by simpa using h3
      subst this
      exact ⟨by unfold ordI; rw [if_neg (Int.lt_irrefl _), if_neg (Int.lt_irrefl _)], trivial⟩
end Go.Proofs.YtmghbedgfnlpoaaDoor
