/- A further entry on the straight line: the list stays valid, and no correction changes. No program is in sight here. -/
import Derived.Test.YtdjlickmjfpokaaPlain3
namespace Go.Proofs.Ytdjlickmjfpokaa
open Go Go.RowKit
set_option linter.unusedVariables false
set_option linter.unusedSimpArgs false

/-- A list with one entry more. -/
def ins (l : List (Int × Int)) (i : Nat) (e : Int × Int) : List (Int × Int) := l.take i ++ e :: l.drop i
theorem ins_len {l : List (Int × Int)} {i : Nat} {e : Int × Int} (h : i ≤ l.length) : (ins l i e).length = l.length + 1 := by
  unfold ins; rw [List.length_append, List.length_take, List.length_cons, List.length_drop]; omega
theorem ins_lt {l : List (Int × Int)} {i k : Nat} {e : Int × Int} (h : i ≤ l.length) (hk : k < i) : (ins l i e).getD k (0, 0) = l.getD k (0, 0) := by
  unfold ins
  rw [List.getD_eq_getElem?_getD, List.getD_eq_getElem?_getD, List.getElem?_append_left (by rw [List.length_take]; omega), List.getElem?_take_of_lt hk]
theorem ins_eq {l : List (Int × Int)} {i : Nat} {e : Int × Int} (h : i ≤ l.length) : (ins l i e).getD i (0, 0) = e := by
  unfold ins
  rw [List.getD_eq_getElem?_getD, List.getElem?_append_right (by rw [List.length_take]; omega), List.length_take, show i - min i l.length = 0 by omega]
  rfl
theorem ins_gt {l : List (Int × Int)} {i k : Nat} {e : Int × Int} (h : i ≤ l.length) (hk : i < k) : (ins l i e).getD k (0, 0) = l.getD (k - 1) (0, 0) := by
  unfold ins
  rw [List.getD_eq_getElem?_getD, List.getD_eq_getElem?_getD, List.getElem?_append_right (by rw [List.length_take]; omega), List.length_take, show k - min i l.length = (k - i - 1) + 1 by omega,
    List.getElem?_cons_succ, List.getElem?_drop, show i + (k - i - 1) = k - 1 by omega]
theorem frac_eq {n d m e : Int} (hd : 0 < d) (he : 0 < e) (h : n * e = m * d) : n / d = m / e ∧ -(-n / d) = -(-m / e) := by
  have key : ∀ {n m : Int}, n * e = m * d → n / d = m / e := fun {n m} h => by
    rw [← Int.mul_ediv_mul_of_pos_left n d he, ← Int.mul_ediv_mul_of_pos_left m e hd, h, Int.mul_comm e d]
  exact ⟨key h, by rw [key (n := -n) (m := -m) (by rw [Int.neg_mul, Int.neg_mul, h])]⟩
theorem off_frac {y m d : Int} (hd : 0 < d) : y + m / d = (y * d + m) / d ∧ y + -(-m / d) = -(-(y * d + m) / d) := by
  have e3 : (y * d + m) / d = y + m / d := by rw [Int.add_comm, Int.add_mul_ediv_right _ _ (by omega)]; omega
  have e4 : -(y * d + m) / d = -y + -m / d := by
    rw [show -(y * d + m) = -m + -y * d by rw [Int.neg_mul]; omega, Int.add_mul_ediv_right _ _ (by omega)]; omega
  rw [e3, e4]
  exact ⟨rfl, by omega⟩
/-- What stands on the line between two entries. -/
structure OnLine (l : List (Int × Int)) (i : Nat) (a x : Int) : Prop where
  le : i ≤ l.length
  first : i = 0 → x = valAt l 0
  last : i = l.length → x = valAt l (l.length - 1)
  less : 0 < i → atAt l (i - 1) < a
  more : i < l.length → a < atAt l i
  mid : 0 < i → i < l.length → (x - valAt l (i - 1)) * (atAt l i - atAt l (i - 1)) = (valAt l i - valAt l (i - 1)) * (a - atAt l (i - 1))
theorem on_line {idx : Int} {l : List (Int × Int)} {i : Nat} {a x : Int} (hv : Valid18 idx l) (hl : 0 < l.length) (hF : Found l a i) (hn : i < l.length → atAt l i ≠ a) (hx : cLo l a = x) (hy : cHi l a = x) : OnLine l i a x := by
  have hA := asc_of hv
  obtain ⟨f1, f2, f3⟩ := hF
  refine ⟨f1, fun h => ?_, fun h => ?_, fun h => f2 _ (by omega), fun h => ?_, fun h1 h2 => ?_⟩
  · subst h
    rw [← hx]; exact (c_lo hA hl (f3 0 (Nat.le_refl _) hl)).1
  · subst h
    have := f2 (l.length - 1) (by omega)
    rw [← hx]; exact (c_hi hA hl (by omega)).1
  · have := f3 i (Nat.le_refl _) h
    have := hn h
    omega
  · have g1 := f2 (i - 1) (by omega)
    have g2 := f3 i (Nat.le_refl _) h2
    have hd : 0 < atAt l i - atAt l (i - 1) := by omega
    obtain ⟨e1, e2⟩ := c_mid hA h1 h2 g1 g2
    rw [hx] at e1
    rw [hy] at e2
    obtain ⟨u1, u2, u3, u4⟩ := up_down (a := (valAt l i - valAt l (i - 1)) * (a - atAt l (i - 1))) hd
    have e : -(-((valAt l i - valAt l (i - 1)) * (a - atAt l (i - 1))) / (atAt l i - atAt l (i - 1))) = x - valAt l (i - 1) := by omega
    have e' : (valAt l i - valAt l (i - 1)) * (a - atAt l (i - 1)) / (atAt l i - atAt l (i - 1)) = x - valAt l (i - 1) := by omega
    have h3 := Int.ediv_mul_le ((valAt l i - valAt l (i - 1)) * (a - atAt l (i - 1))) (show atAt l i - atAt l (i - 1) ≠ 0 by omega)
    rw [e] at u4
    rw [e'] at h3
    omega
theorem straight_valid {idx : Int} {l : List (Int × Int)} {i : Nat} {a x : Int} (hv : Valid18 idx l) (h39 : l.length ≤ 39) (ha : 0 ≤ a ∧ a ≤ 7800000) (hx : -10000 ≤ x ∧ x ≤ 10000) (hl : 0 < l.length) (h : OnLine l i a x) :
    Valid18 idx (ins l i (a, x)) := by
  obtain ⟨v1, v2, v3, v4⟩ := hv
  obtain ⟨h1, h2, h3, h4, h5, h6⟩ := h
  refine ⟨v1, v2, by rw [ins_len h1]; omega, fun k hk => ?_⟩
  rw [ins_len h1] at hk
  have lt : ∀ {k}, k < i → atAt (ins l i (a, x)) k = atAt l k ∧ valAt (ins l i (a, x)) k = valAt l k := fun hk => by
    unfold atAt valAt; rw [ins_lt h1 hk]; exact ⟨rfl, rfl⟩
  have eq : atAt (ins l i (a, x)) i = a ∧ valAt (ins l i (a, x)) i = x := by
    unfold atAt valAt; rw [ins_eq h1]; exact ⟨rfl, rfl⟩
  have gt : ∀ {k}, i < k → atAt (ins l i (a, x)) k = atAt l (k - 1) ∧ valAt (ins l i (a, x)) k = valAt l (k - 1) := fun hk => by
    unfold atAt valAt; rw [ins_gt h1 hk]; exact ⟨rfl, rfl⟩
  unfold OkEnt
  rcases Nat.lt_trichotomy k i with q | q | q
  · rw [(lt q).1, (lt q).2]
    have := v4 k (by omega)
    unfold OkEnt at this
    by_cases k0 : 0 < k
    · rw [(lt (show k - 1 < i by omega)).1, (lt (show k - 1 < i by omega)).2]
      exact this
    · exact ⟨this.1, this.2.1, this.2.2.1, this.2.2.2.1, fun h => absurd h k0⟩
  · subst q
    rw [eq.1, eq.2]
    refine ⟨ha.1, ha.2, hx.1, hx.2, fun k0 => ?_⟩
    rw [(lt (show k - 1 < k by omega)).1, (lt (show k - 1 < k by omega)).2]
    have g := h4 k0
    refine ⟨g, ?_⟩
    by_cases e : k = l.length
    · have := h3 e
      rw [e] at g ⊢
      rw [this]
      omega
    · have k1 : k < l.length := by omega
      have m := h6 k0 k1
      have o := v4 k k1
      unfold OkEnt at o
      obtain ⟨-, -, -, -, o⟩ := o
      obtain ⟨o1, o2, o3⟩ := o k0
      have hd : 0 < atAt l k - atAt l (k - 1) := by omega
      have p1 : 0 ≤ (a - atAt l (k - 1)) * (atAt l k - atAt l (k - 1) - 10 * (valAt l k - valAt l (k - 1))) := Int.mul_nonneg (by omega) (by omega)
      have p2 : 0 ≤ (a - atAt l (k - 1)) * (atAt l k - atAt l (k - 1) + 10 * (valAt l k - valAt l (k - 1))) := Int.mul_nonneg (by omega) (by omega)
      constructor
      · refine Int.le_of_mul_le_mul_right ?_ hd
        grind
      · refine Int.le_of_mul_le_mul_right ?_ hd
        grind
  · rw [(gt q).1, (gt q).2]
    have o := v4 (k - 1) (by omega)
    unfold OkEnt at o
    refine ⟨o.1, o.2.1, o.2.2.1, o.2.2.2.1, fun k0 => ?_⟩
    by_cases e : k = i + 1
    · subst e
      rw [Nat.add_sub_cancel] at o ⊢
      rw [eq.1, eq.2]
      have g := h5 (by omega)
      refine ⟨g, ?_⟩
      by_cases i0 : i = 0
      · have := h2 i0
        rw [i0] at g ⊢
        rw [this]
        omega
      · have m := h6 (by omega) (by omega)
        obtain ⟨o1, o2, o3⟩ := o.2.2.2.2 (by omega)
        have hd : 0 < atAt l i - atAt l (i - 1) := by omega
        have p1 : 0 ≤ (atAt l i - a) * (atAt l i - atAt l (i - 1) - 10 * (valAt l i - valAt l (i - 1))) := Int.mul_nonneg (by omega) (by omega)
        have p2 : 0 ≤ (atAt l i - a) * (atAt l i - atAt l (i - 1) + 10 * (valAt l i - valAt l (i - 1))) := Int.mul_nonneg (by omega) (by omega)
        constructor
        · refine Int.le_of_mul_le_mul_right ?_ hd
          grind
        · refine Int.le_of_mul_le_mul_right ?_ hd
          grind
    · rw [(gt (show i < k - 1 by omega)).1, (gt (show i < k - 1 by omega)).2]
      exact o.2.2.2.2 (by omega)
theorem straight_c {idx : Int} {l : List (Int × Int)} {i : Nat} {a x : Int} (hv : Valid18 idx l) (hv' : Valid18 idx (ins l i (a, x))) (hl : 0 < l.length) (h : OnLine l i a x) (hs : Int) :
    cLo (ins l i (a, x)) hs = cLo l hs ∧ cHi (ins l i (a, x)) hs = cHi l hs := by
  have hA := asc_of hv
  have hB := asc_of hv'
  obtain ⟨h1, h2, h3, h4, h5, h6⟩ := h
  have hn := ins_len (e := (a, x)) h1
  have hl' : 0 < (ins l i (a, x)).length := by omega
  have lt : ∀ k, k < i → atAt (ins l i (a, x)) k = atAt l k ∧ valAt (ins l i (a, x)) k = valAt l k := fun k hk => by
    unfold atAt valAt; rw [ins_lt h1 hk]; exact ⟨rfl, rfl⟩
  have eq : atAt (ins l i (a, x)) i = a ∧ valAt (ins l i (a, x)) i = x := by
    unfold atAt valAt; rw [ins_eq h1]; exact ⟨rfl, rfl⟩
  have gt : ∀ k, i < k → atAt (ins l i (a, x)) k = atAt l (k - 1) ∧ valAt (ins l i (a, x)) k = valAt l (k - 1) := fun k hk => by
    unfold atAt valAt; rw [ins_gt h1 hk]; exact ⟨rfl, rfl⟩
  generalize ins l i (a, x) = m at *
  have two : ∀ {u v u' v' : Int}, u = u' ∧ v = v' → u = u' ∧ v = v' := fun h => h
  -- before the first entry of all
  by_cases c0 : hs ≤ atAt m 0 ∧ hs ≤ atAt l 0
  · obtain ⟨e1, e2⟩ := c_lo hB hl' c0.1
    obtain ⟨e3, e4⟩ := c_lo hA hl c0.2
    rw [e1, e2, e3, e4]
    by_cases i0 : i = 0
    · subst i0; rw [eq.2, h2 rfl]; exact ⟨rfl, rfl⟩
    · rw [(lt 0 (by omega)).2]; exact ⟨rfl, rfl⟩
  by_cases c1 : atAt m (m.length - 1) ≤ hs ∧ atAt l (l.length - 1) ≤ hs
  · obtain ⟨e1, e2⟩ := c_hi hB hl' c1.1
    obtain ⟨e3, e4⟩ := c_hi hA hl c1.2
    rw [e1, e2, e3, e4, hn, Nat.add_sub_cancel]
    by_cases iN : i = l.length
    · subst iN; rw [eq.2, h3 rfl]; exact ⟨rfl, rfl⟩
    · rw [(gt l.length (by omega)).2]; exact ⟨rfl, rfl⟩
  -- where it stands in the longer list
  obtain ⟨f1, f2, f3⟩ := pos_found (hs := hs) hB
  generalize pos m hs = p at *
  have p0 : p ≠ 0 := fun e => by
    subst e
    have g := f3 0 (Nat.le_refl _) hl'
    by_cases i0 : i = 0
    · subst i0
      rw [eq.1] at g
      have := h5 (by omega)
      exact c0 ⟨by rw [eq.1]; exact g, by omega⟩
    · rw [(lt 0 (by omega)).1] at g
      exact c0 ⟨by rw [(lt 0 (by omega)).1]; exact g, g⟩
  have pN : p ≠ m.length := fun e => by
    have g := f2 (m.length - 1) (by omega)
    rw [hn, Nat.add_sub_cancel] at g
    refine c1 ⟨by rw [hn, Nat.add_sub_cancel]; omega, ?_⟩
    by_cases iN : i = l.length
    · subst iN
      rw [eq.1] at g
      have := h4 (by omega)
      omega
    · rw [(gt l.length (by omega)).1] at g
      omega
  have g1 := f2 (p - 1) (by omega)
  have g2 := f3 p (Nat.le_refl _) (by omega)
  obtain ⟨e1, e2⟩ := c_mid hB (by omega) (show p < m.length by omega) g1 g2
  rw [e1, e2]
  rcases Nat.lt_trichotomy p i with q | q | q
  · rw [(lt p q).1, (lt (p - 1) (by omega)).1] at *
    obtain ⟨e3, e4⟩ := c_mid hA (show 0 < p by omega) (by omega) g1 g2
    rw [e3, e4, (lt p q).2, (lt (p - 1) (by omega)).2]
    exact ⟨rfl, rfl⟩
  · subst q
    rw [eq.1] at g2
    rw [(lt (p - 1) (by omega)).1] at g1
    rw [eq.1, (lt (p - 1) (by omega)).1]
    rw [eq.2, (lt (p - 1) (by omega)).2]
    by_cases pl : p = l.length
    · have := h3 pl
      have hk := h4 (by omega)
      obtain ⟨e3, e4⟩ := c_hi (hs := hs) hA hl (by rw [← pl]; omega)
      rw [e3, e4, this, ← pl, Int.sub_self, Int.zero_mul]
      simp
    · have m6 := h6 (by omega) (by omega)
      have k4 := h4 (by omega)
      have k5 := h5 (by omega)
      obtain ⟨e3, e4⟩ := c_mid (hs := hs) hA (show 0 < p by omega) (by omega) g1 (by omega)
      rw [e3, e4]
      have hd : 0 < a - atAt l (p - 1) := by omega
      have he : 0 < atAt l p - atAt l (p - 1) := by omega
      obtain ⟨z1, z2⟩ := frac_eq (n := (x - valAt l (p - 1)) * (hs - atAt l (p - 1))) (m := (valAt l p - valAt l (p - 1)) * (hs - atAt l (p - 1))) hd he (by grind)
      rw [z1, z2]
      exact ⟨rfl, rfl⟩
  · by_cases q1 : p = i + 1
    · subst q1
      rw [Nat.add_sub_cancel] at *
      rw [eq.1, (gt (i + 1) (by omega)).1, Nat.add_sub_cancel] at *
      rw [eq.2, (gt (i + 1) (by omega)).2, Nat.add_sub_cancel]
      have k5 := h5 (by omega)
      by_cases i0 : i = 0
      · have := h2 i0
        obtain ⟨e3, e4⟩ := c_lo (hs := hs) hA hl (by rw [← i0]; omega)
        rw [e3, e4, this, i0, Int.sub_self, Int.zero_mul]
        simp
      · have m6 := h6 (by omega) (by omega)
        have k4 := h4 (by omega)
        obtain ⟨e3, e4⟩ := c_mid (hs := hs) hA (show 0 < i by omega) (by omega) (by omega) g2
        rw [e3, e4]
        have hd : 0 < atAt l i - a := by omega
        have he : 0 < atAt l i - atAt l (i - 1) := by omega
        obtain ⟨o1, o2⟩ := off_frac (y := x) (m := (valAt l i - x) * (hs - a)) hd
        obtain ⟨o3, o4⟩ := off_frac (y := valAt l (i - 1)) (m := (valAt l i - valAt l (i - 1)) * (hs - atAt l (i - 1))) he
        rw [o1, o2, o3, o4]
        exact frac_eq hd he (by grind)
    · rw [(gt p (by omega)).1, (gt (p - 1) (by omega)).1] at *
      rw [(gt p (by omega)).2, (gt (p - 1) (by omega)).2]
      obtain ⟨e3, e4⟩ := c_mid (hs := hs) hA (show 0 < p - 1 by omega) (by omega) g1 g2
      rw [e3, e4]
      exact ⟨rfl, rfl⟩
end Go.Proofs.Ytdjlickmjfpokaa
