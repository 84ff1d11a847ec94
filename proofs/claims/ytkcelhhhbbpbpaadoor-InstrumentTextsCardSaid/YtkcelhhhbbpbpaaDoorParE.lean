/- The reference's reading of texts of angles: a contract. -/
import Derived.Test.YtkcelhhhbbpbpaaDoorParD
import Derived.Test.YtkcelhhhbbpbpaaDoorParW
namespace Go.Proofs.YtkcelhhhbbpbpaaDoor
open Go Go.Abs Go.RowKit
set_option linter.unusedVariables false
set_option linter.unusedSimpArgs false
def sgnW (mi : Bool) (n : Int) : Int := if mi then IntKind.i64.wrap (0 - n) else n
theorem drF_snoc (l : List UInt8) (c : UInt8) : drF (l ++ [c]) = if drF l ≤ 1099511627776 then 10 * drF l + (c.toNat - 48) else drF l := by unfold drF; rw [List.foldl_append]; rfl
theorem drF_take {l : List UInt8} {i : Nat} (q : i < l.length) : drF (l.take (i + 1)) = if drF (l.take i) ≤ 1099511627776 then 10 * drF (l.take i) + ((l[i]).toNat - 48) else drF (l.take i) := by rw [← List.take_append_getElem q, drF_snoc]
theorem drF_i (l : List UInt8) (h : ∀ b ∈ l, 48 ≤ b.toNat ∧ b.toNat ≤ 57) : ∀ i, i ≤ l.length → drF (l.take i) ≤ 10995116277769 ∧ ((drF (l.take i) = decN (l.take i)) ∨ (1099511627776 < drF (l.take i) ∧ 1099511627776 < decN (l.take i)))
  | 0, _ => ⟨by rw [List.take_zero]; decide, Or.inl (by rw [List.take_zero]; rfl)⟩
  | i + 1, hi => by
    obtain ⟨h1, h2⟩ := drF_i l h i (by omega)
    have hb := h l[i] (List.getElem_mem (by omega))
    rw [drF_take (by omega), decN_take (by omega)]
    generalize (l[i]).toNat = c at *
    split
    · refine ⟨by omega, ?_⟩
      rcases h2 with h2 | h2 <;> omega
    · refine ⟨h1, ?_⟩
      rcases h2 with h2 | h2 <;> omega
theorem drF_tail (l : List UInt8) (h : ∀ b ∈ l, 48 ≤ b.toNat ∧ b.toNat ≤ 57) (m t : Nat) (mi : Bool) : drF l ≤ 10995116277769 ∧ tailB (drF l) (drF l) m t mi 18325193 = tailB (decN l) (decN l) m t mi 18325193 := by
  obtain ⟨h1, h2⟩ := drF_i l h l.length (Nat.le_refl _)
  rw [List.take_length] at h1 h2
  refine ⟨h1, ?_⟩
  rcases h2 with h2 | h2
  · rw [h2]
  · unfold tailB; rw [if_pos (by omega), if_pos (by omega)]
/-- The end: the number, or that it is too great. -/
theorem fin5 (z m f : Int) (d M t : Nat) (mi : Bool) (K : Value → Prop) (hz : z = d) (hm : m = M) (hf : f = t) (hd : d ≤ 10995116277769) (hM : M ≤ 99) (ht : t ≤ 10000)
    (hK : K (.tuple #[.int .i64 (tailB d d M t mi 18325193).1, .int .i64 (tailB d d M t mi 18325193).2])) :
    bcase (decide (z > 18325193)) (K (Value.tuple #[Value.int IntKind.i64 0, Value.int IntKind.i64 5]))
    (bcase (decide (IntKind.i64.wrap (IntKind.i64.wrap (IntKind.i64.wrap (z * 60000) + IntKind.i64.wrap (m * 1000)) + f) > 1099511627776)) (K (Value.tuple #[Value.int IntKind.i64 0, Value.int IntKind.i64 5]))
    (K (Value.tuple #[Value.int IntKind.i64 (sgnW mi (IntKind.i64.wrap (IntKind.i64.wrap (IntKind.i64.wrap (z * 60000) + IntKind.i64.wrap (m * 1000)) + f))), Value.int IntKind.i64 0]))) := by
  subst hz hm hf
  have w : IntKind.i64.wrap (IntKind.i64.wrap (IntKind.i64.wrap ((d : Int) * 60000) + IntKind.i64.wrap ((M : Int) * 1000)) + (t : Int)) = ((d * 60000 + M * 1000 + t : Nat) : Int) := by
    rw [wrap_in (n := (d : Int) * 60000) (by omega), wrap_in (n := (M : Int) * 1000) (by omega), wrap_in (n := (d : Int) * 60000 + (M : Int) * 1000) (by omega), wrap_in (by omega)]; omega
  rw [w]
  unfold tailB at hK
  have hN : d * 60000 + M * 1000 + t ≤ 9000000000000000000 := by omega
  generalize d * 60000 + M * 1000 + t = N at *
  refine bcase_iff.mpr ⟨fun q => ?_, fun q => bcase_iff.mpr ⟨fun q2 => ?_, fun q2 => ?_⟩⟩
  · have q := of_decide_eq_true q
    rw [if_pos (by omega)] at hK; exact hK
  · have q := of_decide_eq_false q
    have q2 := of_decide_eq_true q2
    rw [if_neg (by omega), if_pos (by omega)] at hK; exact hK
  · have q := of_decide_eq_false q
    have q2 := of_decide_eq_false q2
    rw [if_neg (by omega), if_neg (by omega)] at hK
    unfold sgnW
    cases mi
    · exact hK
    · show K _
      rw [if_pos rfl, wrap_in (by omega), show (0 : Int) - (N : Int) = -(N : Int) by omega]
      exact hK
theorem loopR (s : ByteArray) (q : List UInt8) (W M z : Int) (Y m d : Nat) (mi : Bool) (K : Value → Prop) (PB : Prop) (hPB : PB) (hW : W = Y) (hM : M = m) (hz : z = d) (sz : s.size = Y + q.length) (hY : Y ≤ 8010)
    (hq : q.length ≤ 3) (hm : m ≤ 99) (hd : d ≤ 10995116277769) (g : ∀ k (h : k < q.length), s.get! (Y + k) = q[k]) (h7 : q.all dig = false → K (.tuple #[.int .i64 0, .int .i64 7]))
    (hK : q.all dig = true → K (.tuple #[.int .i64 (tailB d d m (decN q * 10 ^ (3 - q.length)) mi 18325193).1, .int .i64 (tailB d d m (decN q * 10 ^ (3 - q.length)) mi 18325193).2])) :
 (∃ (s_2 : Nat),
 (s = s ∧
 Int.ofNat 0 = 0 ∧
 Int.ofNat 0 = 0 ∧
 Int.ofNat 7 = 7 ∧
 W = W + (↑s_2 : Int) ∧
 PB ∧
 z = z ∧
 M =
 M ∧
 0 = frI q s_2 ∧ 100 = unI s_2 ∧ True) ∧
 AllDg q s_2 ∧
 ∀ (s_3 : Nat),
 AllDg q s_3 →
 bcase (decide (W + (↑s_3 : Int) < (↑s.size : Int)))
 (bcase (inB (W + (↑s_3 : Int)) s.size)
 (bcase (decide ((↑(s.get! (W + (↑s_3 : Int)).toNat).toNat : Int) ≥ 48))
 (bcase (!decide ((↑(s.get! (W + (↑s_3 : Int)).toNat).toNat : Int) ≤ 57)) (K (Value.tuple #[Value.int IntKind.i64 0, Value.int IntKind.i64 7]))
 (bcase (inB (W + (↑s_3 : Int)) s.size)
 (∃ (s_4 : Nat),
 (s = s ∧
 Int.ofNat 0 = 0 ∧
 Int.ofNat 0 = 0 ∧
 Int.ofNat 7 = 7 ∧
 IntKind.i64.wrap (W + (↑s_3 : Int) + 1) = W + (↑s_4 : Int) ∧
 PB ∧
 z = z ∧
 M =
 M ∧
 IntKind.i64.wrap (frI q s_3 + IntKind.i64.wrap (unI s_3 * IntKind.i64.wrap (IntKind.u8.wrap ((↑(s.get! (W + (↑s_3 : Int)).toNat).toNat : Int) - 48)))) = frI q s_4 ∧ IntKind.i64.wrap ((unI s_3).tdiv 10) = unI s_4 ∧ True) ∧
 AllDg q s_4 ∧ q.length - s_4 < q.length - s_3)
 False))
 (K (Value.tuple #[Value.int IntKind.i64 0, Value.int IntKind.i64 7])))
 False)
 (bcase (decide (z > 18325193)) (K (Value.tuple #[Value.int IntKind.i64 0, Value.int IntKind.i64 5]))
 (bcase
 (decide (IntKind.i64.wrap (IntKind.i64.wrap (IntKind.i64.wrap (z * 60000) + IntKind.i64.wrap (M * 1000)) + frI q s_3) > 1099511627776))
 (K (Value.tuple #[Value.int IntKind.i64 0, Value.int IntKind.i64 5]))
 (K
 (Value.tuple
 #[Value.int IntKind.i64 (sgnW mi (IntKind.i64.wrap (IntKind.i64.wrap (IntKind.i64.wrap (z * 60000) + IntKind.i64.wrap (M * 1000)) + frI q s_3))),
 Value.int IntKind.i64 0]))))) := by
  have fb : ∀ k, AllDg q k → decN (q.take k) * 10 ^ (3 - k) ≤ 9999 := fun k ⟨hk, ha⟩ => by
    have b := decN_lt (q.take k) (all_iff.mp ha)
    rw [List.length_take, show min k q.length = k by omega] at b
    have : k = 0 ∨ k = 1 ∨ k = 2 ∨ k = 3 := by omega
    rcases this with e | e | e | e <;> subst e <;> omega
  refine ⟨0, ⟨rfl, rfl, rfl, rfl, (Int.add_zero W).symm, hPB, rfl, rfl, ?_, rfl, trivial⟩, ⟨Nat.zero_le _, rfl⟩, fun k hk => ?_⟩
  · unfold frI; rw [List.take_zero]; rfl
  · have hb := fb k hk
    obtain ⟨hk1, ha⟩ := hk
    have e1 : W + (k : Int) = ((Y + k : Nat) : Int) := by omega
    rw [e1]
    refine bcase_iff.mpr ⟨fun c => ?_, fun c => ?_⟩
    · have c := of_decide_eq_true c
      have hk2 : k < q.length := by omega
      rw [inY (by omega) (by omega), bcase_true, bcase_true, Int.toNat_natCast, g k hk2]
      have u := (q[k]).toNat_lt
      refine bcase_iff.mpr ⟨fun c1 => bcase_iff.mpr ⟨fun c2 => ?_, fun c2 => ?_⟩, fun c1 => ?_⟩
      · rw [Bool.not_eq_true'] at c2
        have c2 := of_decide_eq_false c2
        exact h7 (not_all hk2 (dig_no.mpr (by omega)))
      · rw [Bool.not_eq_false'] at c2
        have c1 := of_decide_eq_true c1
        have c2 := of_decide_eq_true c2
        have hd' : dig q[k] = true := dig_iff.mpr (by omega)
        have hk' : AllDg q (k + 1) := ⟨by omega, all_take hk2 ha hd'⟩
        have hb' := fb (k + 1) hk'
        refine ⟨k + 1, ⟨rfl, rfl, rfl, rfl, ?_, hPB, rfl, rfl, ?_, ?_, trivial⟩, hk', by omega⟩
        · rw [wrap_in (by omega)]; omega
        · unfold frI unI
          rw [decN_take hk2] at hb' ⊢
          generalize (q[k]).toNat = e at *
          have bd := decN_lt (q.take k) (all_iff.mp ha)
          rw [List.length_take, show min k q.length = k by omega] at bd
          generalize decN (q.take k) = n at *
          rw [u8w (by omega), wrap_in (n := (e : Int) - 48) (by omega)]
          have : k = 0 ∨ k = 1 ∨ k = 2 := by omega
          rcases this with e' | e' | e' <;> subst e'
          · rw [show ((100 / 10 ^ 0 : Nat) : Int) = 100 from rfl, wrap_in (n := 100 * ((e : Int) - 48)) (by omega), wrap_in (by omega)]; omega
          · rw [show ((100 / 10 ^ 1 : Nat) : Int) = 10 from rfl, wrap_in (n := 10 * ((e : Int) - 48)) (by omega), wrap_in (by omega)]; omega
          · rw [show ((100 / 10 ^ 2 : Nat) : Int) = 1 from rfl, wrap_in (n := 1 * ((e : Int) - 48)) (by omega), wrap_in (by omega)]; omega
        · unfold unI
          have : k = 0 ∨ k = 1 ∨ k = 2 := by omega
          rcases this with e | e | e <;> subst e <;> decide
      · have c1 := of_decide_eq_false c1
        exact h7 (not_all hk2 (dig_no.mpr (by omega)))
    · have c := of_decide_eq_false c
      have e : k = q.length := by omega
      rw [e, List.take_length] at ha hb
      exact fin5 z M (frI q k) d m (decN q * 10 ^ (3 - q.length)) mi K hz hM (by unfold frI; rw [e, List.take_length]) hd hm (by omega) (hK ha)
theorem restT (s : ByteArray) (x z : Int) (X d : Nat) (r : List UInt8) (mi : Bool) (K : Value → Prop) (LP : Prop) (hx : x = X) (hz : z = d) (hX : X ≤ 4001) (sz : s.size = X + r.length) (hr : r.length ≤ 4000) (hd : d ≤ 10995116277769)
    (g : ∀ k (h : k < r.length), s.get! (X + k) = r[k])
    (h7 : (∀ m x y q, r = m :: x :: y :: q → (m ≠ 45 ∨ dig x = false ∨ dig y = false ∨ 53 < x.toNat) ∨ (q ≠ [] ∧ (q.head? ≠ some 46 ∨ q.length = 1 ∨ 4 < q.length))) → K (.tuple #[.int .i64 0, .int .i64 7]))
    (hL : ∀ x y q, r = 45 :: x :: y :: 46 :: q → dig x = true → dig y = true → x.toNat ≤ 53 → q ≠ [] → q.length ≤ 3 → LP)
    (hK : ∀ x y, r = [45, x, y] → dig x = true → dig y = true → x.toNat ≤ 53 → K (.tuple #[.int .i64 (tailB d d (10 * (x.toNat - 48) + (y.toNat - 48)) 0 mi 18325193).1, .int .i64 (tailB d d (10 * (x.toNat - 48) + (y.toNat - 48)) 0 mi 18325193).2])) :
 (bcase (decide ((↑s.size : Int) < IntKind.i64.wrap (x + 3))) (K (Value.tuple #[Value.int IntKind.i64 0, Value.int IntKind.i64 7]))
 (bcase (inB x s.size)
 (bcase ((↑(s.get! x.toNat).toNat : Int) != 45) (K (Value.tuple #[Value.int IntKind.i64 0, Value.int IntKind.i64 7]))
 (bcase (inB (IntKind.i64.wrap (x + 1)) s.size)
 (bcase (decide ((↑(s.get! (IntKind.i64.wrap (x + 1)).toNat).toNat : Int) ≥ 48))
 (bcase (!decide ((↑(s.get! (IntKind.i64.wrap (x + 1)).toNat).toNat : Int) ≤ 57)) (K (Value.tuple #[Value.int IntKind.i64 0, Value.int IntKind.i64 7]))
 (bcase (inB (IntKind.i64.wrap (x + 2)) s.size)
 (bcase (decide ((↑(s.get! (IntKind.i64.wrap (x + 2)).toNat).toNat : Int) ≥ 48))
 (bcase (!decide ((↑(s.get! (IntKind.i64.wrap (x + 2)).toNat).toNat : Int) ≤ 57)) (K (Value.tuple #[Value.int IntKind.i64 0, Value.int IntKind.i64 7]))
 (bcase (inB (IntKind.i64.wrap (x + 1)) s.size)
 (bcase (decide ((↑(s.get! (IntKind.i64.wrap (x + 1)).toNat).toNat : Int) > 53)) (K (Value.tuple #[Value.int IntKind.i64 0, Value.int IntKind.i64 7]))
 (bcase (inB (IntKind.i64.wrap (x + 1)) s.size)
 (bcase (inB (IntKind.i64.wrap (x + 2)) s.size)
 (bcase (decide (IntKind.i64.wrap (x + 3) < (↑s.size : Int)))
 (bcase (inB (IntKind.i64.wrap (x + 3)) s.size)
 (bcase ((↑(s.get! (IntKind.i64.wrap (x + 3)).toNat).toNat : Int) != 46) (K (Value.tuple #[Value.int IntKind.i64 0, Value.int IntKind.i64 7]))
 (bcase ((↑s.size : Int) == IntKind.i64.wrap (IntKind.i64.wrap (x + 3) + 1)) (K (Value.tuple #[Value.int IntKind.i64 0, Value.int IntKind.i64 7]))
 (bcase (decide ((↑s.size : Int) > IntKind.i64.wrap (IntKind.i64.wrap (x + 3) + 4))) (K (Value.tuple #[Value.int IntKind.i64 0, Value.int IntKind.i64 7]))
 LP)))
 False)
 (bcase (decide (z > 18325193)) (K (Value.tuple #[Value.int IntKind.i64 0, Value.int IntKind.i64 5]))
 (bcase (decide (IntKind.i64.wrap (IntKind.i64.wrap (IntKind.i64.wrap (z * 60000) + IntKind.i64.wrap (IntKind.i64.wrap (IntKind.i64.wrap (10 * IntKind.i64.wrap (IntKind.u8.wrap ((↑(s.get! (IntKind.i64.wrap (x + 1)).toNat).toNat : Int) - 48))) + IntKind.i64.wrap (IntKind.u8.wrap ((↑(s.get! (IntKind.i64.wrap (x + 2)).toNat).toNat : Int) - 48))) * 1000)) + 0) > 1099511627776))
 (K (Value.tuple #[Value.int IntKind.i64 0, Value.int IntKind.i64 5]))
 (K
 (Value.tuple
 #[Value.int IntKind.i64 (sgnW mi (IntKind.i64.wrap (IntKind.i64.wrap (IntKind.i64.wrap (z * 60000) + IntKind.i64.wrap (IntKind.i64.wrap (IntKind.i64.wrap (10 * IntKind.i64.wrap (IntKind.u8.wrap ((↑(s.get! (IntKind.i64.wrap (x + 1)).toNat).toNat : Int) - 48))) + IntKind.i64.wrap (IntKind.u8.wrap ((↑(s.get! (IntKind.i64.wrap (x + 2)).toNat).toNat : Int) - 48))) * 1000)) + 0))),
 Value.int IntKind.i64 0])))))
 False)
 False))
 False))
 (K (Value.tuple #[Value.int IntKind.i64 0, Value.int IntKind.i64 7])))
 False))
 (K (Value.tuple #[Value.int IntKind.i64 0, Value.int IntKind.i64 7])))
 False))
 False)) := by
  subst hx
  have w1 : IntKind.i64.wrap ((X : Int) + 1) = ((X + 1 : Nat) : Int) := by rw [wrap_in (by omega)]; omega
  have w2 : IntKind.i64.wrap ((X : Int) + 2) = ((X + 2 : Nat) : Int) := by rw [wrap_in (by omega)]; omega
  have w3 : IntKind.i64.wrap ((X : Int) + 3) = ((X + 3 : Nat) : Int) := by rw [wrap_in (by omega)]; omega
  have w4 : IntKind.i64.wrap (((X + 3 : Nat) : Int) + 1) = ((X + 4 : Nat) : Int) := by rw [wrap_in (by omega)]; omega
  have w5 : IntKind.i64.wrap (((X + 3 : Nat) : Int) + 4) = ((X + 7 : Nat) : Int) := by rw [wrap_in (by omega)]; omega
  rw [w1, w2, w3, w4, w5]
  match r, sz, g, hr, h7, hL, hK with
  | [], sz, g, hr, h7, hL, hK => rw [decide_eq_true (by simp at sz; omega), bcase_true]; exact h7 (by intro m x y q e; simp at e)
  | [_], sz, g, hr, h7, hL, hK => rw [decide_eq_true (by simp at sz; omega), bcase_true]; exact h7 (by intro m x y q e; simp at e)
  | [_, _], sz, g, hr, h7, hL, hK => rw [decide_eq_true (by simp at sz; omega), bcase_true]; exact h7 (by intro m x y q e; simp at e)
  | m :: a :: b :: q, sz, g, hr, h7, hL, hK =>
    have g0 := g 0 (by simp)
    have g1 := g 1 (by simp)
    have g2 := g 2 (by simp)
    simp only [List.getElem_cons_zero, List.getElem_cons_succ, Nat.add_zero] at g0 g1 g2
    simp only [List.length_cons] at sz hr
    have bad : (m ≠ 45 ∨ dig a = false ∨ dig b = false ∨ 53 < a.toNat) ∨ (q ≠ [] ∧ (q.head? ≠ some 46 ∨ q.length = 1 ∨ 4 < q.length)) → K (.tuple #[.int .i64 0, .int .i64 7]) := fun h => h7 (by
      intro m' x' y' q' e
      simp only [List.cons.injEq] at e
      obtain ⟨rfl, rfl, rfl, rfl⟩ := e
      exact h)
    rw [decide_eq_false (by omega), bcase_false, inY (by omega) (by omega), bcase_true, Int.toNat_natCast, g0]
    refine bcase_iff.mpr ⟨fun c => ?_, fun c => ?_⟩
    · rw [bne_iff_ne] at c
      exact bad (Or.inl (Or.inl (fun e => c (by rw [e]; rfl))))
    rw [bne_eq_false_iff_eq] at c
    have hm : m = 45 := UInt8.toNat_inj.mp (by show m.toNat = 45; omega)
    subst hm
    rw [inY (by omega) (by omega), bcase_true, bcase_true, bcase_true, Int.toNat_natCast, g1, inY (j := ((X + 2 : Nat) : Int)) (by omega) (by omega), bcase_true, bcase_true, Int.toNat_natCast, g2]
    have ua := a.toNat_lt
    have ub := b.toNat_lt
    refine bcase_iff.mpr ⟨fun c1 => bcase_iff.mpr ⟨fun c2 => ?_, fun c2 => ?_⟩, fun c1 => ?_⟩
    · rw [Bool.not_eq_true'] at c2
      exact bad (Or.inl (Or.inr (Or.inl (dig_no.mpr (by have := of_decide_eq_false c2; omega)))))
    rotate_left
    · exact bad (Or.inl (Or.inr (Or.inl (dig_no.mpr (by have := of_decide_eq_false c1; omega)))))
    rw [Bool.not_eq_false'] at c2
    have c1 := of_decide_eq_true c1
    have c2 := of_decide_eq_true c2
    have da : dig a = true := dig_iff.mpr (by omega)
    refine bcase_iff.mpr ⟨fun c3 => bcase_iff.mpr ⟨fun c4 => ?_, fun c4 => ?_⟩, fun c3 => ?_⟩
    · rw [Bool.not_eq_true'] at c4
      exact bad (Or.inl (Or.inr (Or.inr (Or.inl (dig_no.mpr (by have := of_decide_eq_false c4; omega))))))
    rotate_left
    · exact bad (Or.inl (Or.inr (Or.inr (Or.inl (dig_no.mpr (by have := of_decide_eq_false c3; omega))))))
    rw [Bool.not_eq_false'] at c4
    have c3 := of_decide_eq_true c3
    have c4 := of_decide_eq_true c4
    have db : dig b = true := dig_iff.mpr (by omega)
    refine bcase_iff.mpr ⟨fun c5 => bad (Or.inl (Or.inr (Or.inr (Or.inr (by have := of_decide_eq_true c5; omega))))), fun c5 => ?_⟩
    have c5 := of_decide_eq_false c5
    have a53 : a.toNat ≤ 53 := by omega
    match q, sz, hr, g, bad, hL, hK with
    | [], sz, hr, g, bad, hL, hK =>
      rw [decide_eq_false (by simp at sz; omega), bcase_false]
      have hk := hK a b rfl da db a53
      refine fin5 z _ 0 d (10 * (a.toNat - 48) + (b.toNat - 48)) 0 mi K hz ?_ rfl hd (by omega) (by omega) hk
      rw [u8w (by omega), u8w (by omega), wrap_in (n := (a.toNat : Int) - 48) (by omega), wrap_in (n := (b.toNat : Int) - 48) (by omega), wrap_in (n := 10 * _) (by omega), wrap_in (by omega)]
      omega
    | e :: q, sz, hr, g, bad, hL, hK =>
      have g3 := g 3 (by simp)
      simp only [List.getElem_cons_zero, List.getElem_cons_succ] at g3
      simp only [List.length_cons] at sz hr
      rw [decide_eq_true (show ((X + 3 : Nat) : Int) < (s.size : Int) by omega), bcase_true, inY (by omega) (by omega), bcase_true, Int.toNat_natCast, g3]
      refine bcase_iff.mpr ⟨fun c6 => ?_, fun c6 => bcase_iff.mpr ⟨fun c7 => ?_, fun c7 => bcase_iff.mpr ⟨fun c8 => ?_, fun c8 => ?_⟩⟩⟩
      · rw [bne_iff_ne] at c6
        refine bad (Or.inr ⟨by simp, Or.inl fun h => c6 ?_⟩)
        have : e = 46 := by simpa using h
        rw [this]; rfl
      · have c7 := eq_of_beq c7
        exact bad (Or.inr ⟨by simp, Or.inr (Or.inl (by simp only [List.length_cons]; omega))⟩)
      · have c8 := of_decide_eq_true c8
        exact bad (Or.inr ⟨by simp, Or.inr (Or.inr (by simp only [List.length_cons]; omega))⟩)
      · rw [bne_eq_false_iff_eq] at c6
        have : e = 46 := UInt8.toNat_inj.mp (by show e.toNat = 46; omega)
        subst this
        have c7 : ¬ ((s.size : Int) = ((X + 4 : Nat) : Int)) := by simpa using c7
        have c8 := of_decide_eq_false c8
        exact hL a b q rfl da db a53 (fun h => by rw [h] at sz; simp at sz; omega) (by omega)
end Go.Proofs.YtkcelhhhbbpbpaaDoor
