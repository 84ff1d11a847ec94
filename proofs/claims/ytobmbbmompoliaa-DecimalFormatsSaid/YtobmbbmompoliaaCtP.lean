/- Contracts of the functions of decimal over texts. -/
import Derived.Test.YtobmbbmompoliaaCtN
import Derived.Test.YtobmbbmompoliaaRevB
namespace Go.Proofs.Ytobmbbmompoliaa
open Go Go.Abs Go.RowKit
set_option linter.unusedVariables false
set_option linter.unusedSimpArgs false
theorem size_mk (l : List UInt8) : (ByteArray.mk l.toArray).size = l.length := by simp [ByteArray.size]
theorem bytes_app (a b : List UInt8) : (⟨a.toArray⟩ : ByteArray) ++ ⟨b.toArray⟩ = ⟨(a ++ b).toArray⟩ := by
  apply ByteArray.ext
  simp
theorem not_long {a b : ByteArray} (h : a.size + b.size ≤ 9223372036854775807) : tooLong a b = false := by
  unfold tooLong
  have : IntKind.i64.max = 9223372036854775807 := rfl
  rw [this]
  exact decide_eq_false (by omega)
theorem dig_byte (m : Nat) : IntKind.u8.wrap (IntKind.i64.wrap (48 + (m : Int).tmod 10)) = ((UInt8.ofNat (48 + m % 10)).toNat : Int) := by
  have e : (m : Int).tmod 10 = ((m % 10 : Nat) : Int) := rfl
  have e2 : (UInt8.ofNat (48 + m % 10)).toNat = 48 + m % 10 := by simp [UInt8.toNat_ofNat']; omega
  rw [e, e2, wrap_in (by omega)]
  have h1 : IntKind.u8.wrap (48 + ((m % 10 : Nat) : Int)) = 48 + ((m % 10 : Nat) : Int) := IntWalk.u8_in _ (by omega)
  rw [h1]; omega
theorem nat10 (m : Nat) (h : m ≤ 1152921504606846976) : IntKind.i64.wrap ((m : Int).tdiv 10) = ((m / 10 : Nat) : Int) := by
  rw [show (m : Int).tdiv 10 = ((m / 10 : Nat) : Int) from rfl, wrap_in (by omega)]
variable {Φ : World → Prop} (hst : ∀ w w', Φ w → Below w.heap.size w w' → Φ w')
include hst
set_option maxHeartbeats 1000000 in
theorem c_fmt (n k : Int) (h : FOk n k) : Ans Try.prog Φ 22 [num n, num k] (.string (fB n k)) := by
  obtain ⟨⟨n0, n1⟩, k0, k1⟩ := h
  refine fn_by hst Sound.nil (vc_fmt n k _) ?_
  have hN : n.natAbs ≤ 1152921504606846976 := by omega
  have big : (if IntKind.i64.wrap (0 - n) > n then IntKind.i64.wrap (0 - n) else n) = ((n.natAbs : Nat) : Int) := by
    rw [wrap_in (by omega)]; split <;> omega
  have len40 := rem_len (m := n.natAbs) (k := k.toNat) (by omega) (by omega)
  refine ⟨(n.natAbs, 0, []), ⟨rfl, rfl, rfl, big, rfl, rfl, trivial⟩, ⟨Nat.le_refl _, Nat.zero_le _, fun q => absurd q (Nat.lt_irrefl 0), by simp⟩, fun s hs => ?_⟩
  obtain ⟨m, i, L⟩ := s
  obtain ⟨h1, h2, h3, h4⟩ := hs
  dsimp only at h1 h2 h3 h4 ⊢
  have hL : L.length ≤ 40 := by
    have := congrArg List.length h4
    rw [List.length_append] at this
    omega
  rw [dig_byte, nat10 m (by omega), wrap_in (n := (i : Int) + 1) (by omega)]
  have lB : (bytR L).length = L.length := bytR_len L
  have lC : (bytR L ++ [46]).length = L.length + 1 := by rw [List.length_append, lB]; rfl
  have stepNo : (m ≠ 0 ∨ i ≤ k.toNat) → remR m i k.toNat = remR (m / 10) (i + 1) k.toNat ++ [UInt8.ofNat (48 + m % 10)] →
      ((bytR L).length = (bytR L).length ∧ bcase (capOk ((bytR L).length + 1) 1) (∃ s_1 : Nat × Nat × List UInt8,
        (n = n ∧ k = k ∧ (bytR L).length + 1 = (bytR s_1.2.2).length ∧ (bytR L).length + 1 ≠ 0 ∧ ((m / 10 : Nat) : Int) = (s_1.1 : Int) ∧ (i : Int) + 1 = (s_1.2.1 : Int) ∧ bytR L ++ [((UInt8.ofNat (48 + m % 10)).toNat : Int)] = bytR s_1.2.2 ∧ True) ∧
        (s_1.1 ≤ n.natAbs ∧ s_1.2.1 ≤ s_1.2.2.length ∧ (0 < s_1.2.1 → s_1.2.2 ≠ []) ∧ remR s_1.1 s_1.2.1 k.toNat ++ s_1.2.2 = remR n.natAbs 0 k.toNat) ∧ s_1.1 + (k.toNat + 1 - s_1.2.1) < m + (k.toNat + 1 - i)) False) := fun hm hr => by
    rw [cap1 (by omega), bcase_true]
    refine ⟨rfl, (m / 10, i + 1, UInt8.ofNat (48 + m % 10) :: L), ⟨rfl, rfl, by rw [bytR_len, bytR_len]; rfl, by omega, rfl, by show (i : Int) + 1 = ((i + 1 : Nat) : Int); omega, (bytR_cons _ _).symm, trivial⟩, ⟨by show m / 10 ≤ n.natAbs; omega, by show i + 1 ≤ L.length + 1; omega, (fun _ q => by cases q), ?_⟩, by show m / 10 + (k.toNat + 1 - (i + 1)) < m + (k.toNat + 1 - i); omega⟩
    show remR (m / 10) (i + 1) k.toNat ++ (_ :: L) = _
    rw [← h4, hr]; simp
  have stepPt : i = k.toNat → 0 < k →
      ((bytR L).length = (bytR L).length ∧ bcase (capOk ((bytR L).length + 1) 1) ((bytR L).length + 1 = (bytR L ++ [46]).length ∧ bcase (capOk ((bytR L ++ [46]).length + 1) 1) (∃ s_1 : Nat × Nat × List UInt8,
        (n = n ∧ k = k ∧ (bytR L ++ [46]).length + 1 = (bytR s_1.2.2).length ∧ (bytR L ++ [46]).length + 1 ≠ 0 ∧ ((m / 10 : Nat) : Int) = (s_1.1 : Int) ∧ (i : Int) + 1 = (s_1.2.1 : Int) ∧ bytR L ++ [46] ++ [((UInt8.ofNat (48 + m % 10)).toNat : Int)] = bytR s_1.2.2 ∧ True) ∧
        (s_1.1 ≤ n.natAbs ∧ s_1.2.1 ≤ s_1.2.2.length ∧ (0 < s_1.2.1 → s_1.2.2 ≠ []) ∧ remR s_1.1 s_1.2.1 k.toNat ++ s_1.2.2 = remR n.natAbs 0 k.toNat) ∧ s_1.1 + (k.toNat + 1 - s_1.2.1) < m + (k.toNat + 1 - i)) False) False) := fun hi hk => by
    rw [cap1 (by omega), bcase_true, cap1 (by omega), bcase_true]
    refine ⟨rfl, lC.symm ▸ (by rw [lB]), (m / 10, i + 1, UInt8.ofNat (48 + m % 10) :: 46 :: L), ⟨rfl, rfl, by rw [lC, bytR_len]; rfl, by omega, rfl, by show (i : Int) + 1 = ((i + 1 : Nat) : Int); omega, ?_, trivial⟩, ⟨by show m / 10 ≤ n.natAbs; omega, by show i + 1 ≤ L.length + 1 + 1; omega, (fun _ q => by cases q), ?_⟩, by show m / 10 + (k.toNat + 1 - (i + 1)) < m + (k.toNat + 1 - i); omega⟩
    · rw [bytR_cons, bytR_cons]; rfl
    · show remR (m / 10) (i + 1) k.toNat ++ (_ :: 46 :: L) = _
      rw [← h4, hi, rem_point, if_neg (by omega)]; simp
  have cases3 : (m ≠ 0 ∨ i ≤ k.toNat) → bcase ((i : Int) == k) (bcase (decide (k > 0)) ((bytR L).length = (bytR L).length ∧ bcase (capOk ((bytR L).length + 1) 1) ((bytR L).length + 1 = (bytR L ++ [46]).length ∧ bcase (capOk ((bytR L ++ [46]).length + 1) 1) (∃ s_1 : Nat × Nat × List UInt8,
        (n = n ∧ k = k ∧ (bytR L ++ [46]).length + 1 = (bytR s_1.2.2).length ∧ (bytR L ++ [46]).length + 1 ≠ 0 ∧ ((m / 10 : Nat) : Int) = (s_1.1 : Int) ∧ (i : Int) + 1 = (s_1.2.1 : Int) ∧ bytR L ++ [46] ++ [((UInt8.ofNat (48 + m % 10)).toNat : Int)] = bytR s_1.2.2 ∧ True) ∧
        (s_1.1 ≤ n.natAbs ∧ s_1.2.1 ≤ s_1.2.2.length ∧ (0 < s_1.2.1 → s_1.2.2 ≠ []) ∧ remR s_1.1 s_1.2.1 k.toNat ++ s_1.2.2 = remR n.natAbs 0 k.toNat) ∧ s_1.1 + (k.toNat + 1 - s_1.2.1) < m + (k.toNat + 1 - i)) False) False)
      ((bytR L).length = (bytR L).length ∧ bcase (capOk ((bytR L).length + 1) 1) (∃ s_1 : Nat × Nat × List UInt8,
        (n = n ∧ k = k ∧ (bytR L).length + 1 = (bytR s_1.2.2).length ∧ (bytR L).length + 1 ≠ 0 ∧ ((m / 10 : Nat) : Int) = (s_1.1 : Int) ∧ (i : Int) + 1 = (s_1.2.1 : Int) ∧ bytR L ++ [((UInt8.ofNat (48 + m % 10)).toNat : Int)] = bytR s_1.2.2 ∧ True) ∧
        (s_1.1 ≤ n.natAbs ∧ s_1.2.1 ≤ s_1.2.2.length ∧ (0 < s_1.2.1 → s_1.2.2 ≠ []) ∧ remR s_1.1 s_1.2.1 k.toNat ++ s_1.2.2 = remR n.natAbs 0 k.toNat) ∧ s_1.1 + (k.toNat + 1 - s_1.2.1) < m + (k.toNat + 1 - i)) False))
      ((bytR L).length = (bytR L).length ∧ bcase (capOk ((bytR L).length + 1) 1) (∃ s_1 : Nat × Nat × List UInt8,
        (n = n ∧ k = k ∧ (bytR L).length + 1 = (bytR s_1.2.2).length ∧ (bytR L).length + 1 ≠ 0 ∧ ((m / 10 : Nat) : Int) = (s_1.1 : Int) ∧ (i : Int) + 1 = (s_1.2.1 : Int) ∧ bytR L ++ [((UInt8.ofNat (48 + m % 10)).toNat : Int)] = bytR s_1.2.2 ∧ True) ∧
        (s_1.1 ≤ n.natAbs ∧ s_1.2.1 ≤ s_1.2.2.length ∧ (0 < s_1.2.1 → s_1.2.2 ≠ []) ∧ remR s_1.1 s_1.2.1 k.toNat ++ s_1.2.2 = remR n.natAbs 0 k.toNat) ∧ s_1.1 + (k.toNat + 1 - s_1.2.1) < m + (k.toNat + 1 - i)) False) := fun hm => by
    refine bcase_iff.mpr ⟨fun q => bcase_iff.mpr ⟨fun p => stepPt (by have := eq_of_beq q; omega) (of_decide_eq_true p), fun p => stepNo hm ?_⟩, fun q => stepNo hm ?_⟩
    · have q := eq_of_beq q
      have p := of_decide_eq_false p
      have e1 : i = 0 := by omega
      have e2 : k.toNat = 0 := by omega
      rw [e1, e2, rem_point (k := 0)]; simp
    · have q : (i : Int) ≠ k := fun e => by rw [e] at q; simp at q
      rcases Nat.lt_or_ge i k.toNat with c | c
      · exact rem_frac c
      · exact rem_whole (by omega) (by omega)
  have body : ¬ (m ≠ 0 ∨ i ≤ k.toNat) → L = remR n.natAbs 0 k.toNat := fun hm => by
    rw [← h4, remR_far (by omega), show m = 0 by omega, digL_zero, List.nil_append]
  refine bcase_iff.mpr ⟨fun q => cases3 (.inl (by have := of_decide_eq_true q; omega)), fun q => bcase_iff.mpr ⟨fun p => cases3 (.inr (by have := of_decide_eq_true p; omega)), fun p => ?_⟩⟩
  have q := of_decide_eq_false q
  have p := of_decide_eq_false p
  have hb := body (by omega)
  have fin : fB n k = ⟨((if n < 0 then [45] else []) ++ L).toArray⟩ := by
    unfold fB fL
    rw [hb, remR_near (by omega), Nat.sub_zero]
  refine bcase_iff.mpr ⟨fun c => ?_, fun c => ?_⟩
  · have c := of_decide_eq_true c
    have l45 : (bytR L ++ [45]).length = (bytR L).length + 1 := by rw [List.length_append]; rfl
    refine ⟨rfl, ?_⟩
    rw [cap1 (by omega), bcase_true]
    refine rev1 (bytR L ++ [45]) ((bytR L).length + 1) l45 (by omega) (by omega) (fun v => v = .string (fB n k)) ?_
    show Value.string (strV (bytR L ++ [45]).reverse) = _
    rw [fin, if_pos c, show bytR L ++ [45] = bytR (45 :: L) from (bytR_cons 45 L).symm, bytR_rev]; rfl
  · have c := of_decide_eq_false c
    refine rev2 (bytR L) _ rfl ?_ (by omega) (fun v => v = .string (fB n k)) ?_
    · rw [lB, hb, remR_near (by omega), List.length_append, List.length_append, digL_step (k := 1) (by omega), List.length_append, List.length_singleton]; omega
    show Value.string (strV (bytR L).reverse) = _
    rw [fin, if_neg c, bytR_rev]; rfl
end Go.Proofs.Ytobmbbmompoliaa
