/- The program's numbers: contracts of differences, quotients and products, with bounds. -/
import Derived.Test.YtikbpleaaaeibaaGreatTrgM
namespace Go.Proofs.YtikbpleaaaeibaaGreat
open Go Go.Abs Go.RowKit
set_option linter.unusedVariables false
set_option linter.unusedSimpArgs false
abbrev W4 : Int := 115792089237316195423570985008687907853269984665640564039457584007913129639936
def w3 (n : Int) : Int := n / 6277101735386680763835789423207666416102355444464034512896
def w2 (n : Int) : Int := n / 340282366920938463463374607431768211456 % 18446744073709551616
def w1 (n : Int) : Int := n / 18446744073709551616 % 18446744073709551616
def w0 (n : Int) : Int := n % 18446744073709551616
/-- The product of two numbers, as the program makes it. -/
def mulI (A B : Int) : Int := mulS (w3 A) (w2 A) (w1 A) (w0 A) (w3 B) (w2 B) (w1 B) (w0 B) / 340282366920938463463374607431768211456
theorem w_nval {a b c d : Int} (h : U4 a b c d) : w3 (nval a b c d) = a ∧ w2 (nval a b c d) = b ∧ w1 (nval a b c d) = c ∧ w0 (nval a b c d) = d := by
  obtain ⟨⟨a0, a1⟩, ⟨b0, b1⟩, ⟨c0, c1⟩, d0, d1⟩ := h
  unfold w3 w2 w1 w0 nval
  omega
theorem u4_w {n : Int} (h0 : 0 ≤ n) (h1 : n < W4) : U4 (w3 n) (w2 n) (w1 n) (w0 n) ∧ nval (w3 n) (w2 n) (w1 n) (w0 n) = n := by
  unfold U4 U64 w3 w2 w1 w0 nval
  unfold W4 at h1
  omega
theorem mulI_nval {a b c d x y z u : Int} (hA : U4 a b c d) (hB : U4 x y z u) : mulS a b c d x y z u / 340282366920938463463374607431768211456 = mulI (nval a b c d) (nval x y z u) := by
  obtain ⟨a1, a2, a3, a4⟩ := w_nval hA
  obtain ⟨b1, b2, b3, b4⟩ := w_nval hB
  unfold mulI
  rw [a1, a2, a3, a4, b1, b2, b3, b4]
theorem prod_le {x y : Int} (hx : U64 x) (hy : U64 y) : 0 ≤ x * y ∧ x * y ≤ 340282366920938463426481119284349108225 := by
  obtain ⟨x0, x1⟩ := hx
  obtain ⟨y0, y1⟩ := hy
  have p1 : x * y ≤ 18446744073709551615 * 18446744073709551615 := Int.mul_le_mul (by omega) (by omega) y0 (by decide)
  exact ⟨Int.mul_nonneg x0 y0, by omega⟩
theorem mulI_bounds {A B : Int} (hA : 0 ≤ A ∧ A < W4) (hB : 0 ≤ B ∧ B < W4) : 0 ≤ mulI A B ∧ mulI A B * W4 ≤ A * B ∧ A * B < (mulI A B + 2) * W4 := by
  obtain ⟨⟨ua, ub, uc, ud⟩, eA⟩ := u4_w hA.1 hA.2
  obtain ⟨⟨ux, uy, uz, uu⟩, eB⟩ := u4_w hB.1 hB.2
  have e : A * B = mulS (w3 A) (w2 A) (w1 A) (w0 A) (w3 B) (w2 B) (w1 B) (w0 B) * 340282366920938463463374607431768211456 + (w1 A * w0 B + w0 A * w1 B) * 18446744073709551616 + w0 A * w0 B := by
    rw [← eA, ← eB]
    obtain ⟨a1, a2, a3, a4⟩ := w_nval ⟨ua, ub, uc, ud⟩
    obtain ⟨b1, b2, b3, b4⟩ := w_nval ⟨ux, uy, uz, uu⟩
    rw [a1, a2, a3, a4, b1, b2, b3, b4]
    clear a1 a2 a3 a4 b1 b2 b3 b4 eA eB
    generalize w3 A = a
    generalize w2 A = b
    generalize w1 A = c
    generalize w0 A = d
    generalize w3 B = x
    generalize w2 B = y
    generalize w1 B = z
    generalize w0 B = u
    unfold nval mulS
    grind
  have n : 0 ≤ mulS (w3 A) (w2 A) (w1 A) (w0 A) (w3 B) (w2 B) (w1 B) (w0 B) := by
    unfold mulS
    have := (prod_le ua ux).1; have := (prod_le ua uy).1; have := (prod_le ub ux).1; have := (prod_le ua uz).1; have := (prod_le ub uy).1; have := (prod_le uc ux).1
    have := (prod_le ua uu).1; have := (prod_le ub uz).1; have := (prod_le uc uy).1; have := (prod_le ud ux).1; have := (prod_le ub uu).1; have := (prod_le uc uz).1; have := (prod_le ud uy).1
    omega
  have p1 := prod_le uc uu
  have p2 := prod_le ud uz
  have p3 := prod_le ud uu
  rw [e]
  unfold mulI W4
  generalize mulS (w3 A) (w2 A) (w1 A) (w0 A) (w3 B) (w2 B) (w1 B) (w0 B) = P at *
  generalize w1 A * w0 B = q1 at *
  generalize w0 A * w1 B = q2 at *
  generalize w0 A * w0 B = q3 at *
  omega
theorem mulI_lt {A B : Int} (hA : 0 ≤ A ∧ A < W4) (hB : 0 ≤ B ∧ B < W4) : 0 ≤ mulI A B ∧ mulI A B < W4 := by
  obtain ⟨h1, h2, h3⟩ := mulI_bounds hA hB
  refine ⟨h1, ?_⟩
  have : A * B ≤ (W4 - 1) * (W4 - 1) := Int.mul_le_mul (by omega) (by omega) hB.1 (by decide)
  unfold W4 at *
  omega
/-- The words of a number, and what they are. -/
def IsN (n a b c d : Int) : Prop := U4 a b c d ∧ nval a b c d = n
theorem vNat_is {n : Int} (h0 : 0 ≤ n) (h1 : n < W4) {K : Value → Prop} (h : ∀ a b c d, IsN n a b c d → K (vN a b c d)) : K (vNat n) := by
  obtain ⟨u, e⟩ := u4_w h0 h1
  exact h _ _ _ _ ⟨u, e⟩
theorem isN_v {n a b c d : Int} (h : IsN n a b c d) : vN a b c d = vNat n := by
  obtain ⟨u, e⟩ := h
  rw [← e, vNat_nval u]
variable {Φ : World → Prop} (hst : ∀ w w', Φ w → Below w.heap.size w w' → Φ w')
include hst
theorem c_trsub {a b c d x y z u : Int} (hA : U4 a b c d) (hB : U4 x y z u) : Ans Tryz.prog Φ 89 [vN a b c d, vN x y z u] (vNat ((nval a b c d - nval x y z u) % W4)) := by
  refine fn_by hst s_Ts (vc_trsub a b c d x y z u _) ?_
  obtain ⟨ua, ub, uc, ud⟩ := hA
  obtain ⟨ux, uy, uz, uu⟩ := hB
  refine ⟨⟨ud, uu, bit0⟩, fun s1 b1 h1 => ⟨⟨uc, uz, h1.2.1⟩, fun s2 b2 h2 => ⟨⟨ub, uy, h2.2.1⟩, fun s3 b3 h3 => ⟨⟨ua, ux, h3.2.1⟩, fun s4 b4 h4 => ?_⟩⟩⟩⟩
  refine isN_v ⟨⟨h4.1, h3.1, h2.1, h1.1⟩, ?_⟩
  obtain ⟨⟨p1, q1⟩, r1, e1⟩ := h1
  obtain ⟨⟨p2, q2⟩, r2, e2⟩ := h2
  obtain ⟨⟨p3, q3⟩, r3, e3⟩ := h3
  obtain ⟨⟨p4, q4⟩, r4, e4⟩ := h4
  unfold nval W4
  omega
theorem c_trdiv {a b c d t y : Int} (hA : U4 a b c d) (ht : U64 t) (hy : U64 y) (hlt : t < y) : Ans Tryz.prog Φ 105 [vN a b c d, .int .u64 t, .int .u64 y] (vNat ((t * W4 + nval a b c d) / y)) := by
  refine fn_by hst (s_Td hst) (vc_trdiv a b c d t y _) ?_
  obtain ⟨ua, ub, uc, ud⟩ := hA
  have ur : ∀ {h l q r : Int}, DivR h l y q r → U64 r := fun h => ⟨h.2.1, by have := h.2.2.1; have := hy.2; omega⟩
  refine ⟨⟨ht, ua, hy, hlt⟩, fun q1 r1 h1 => ⟨⟨ur h1, ub, hy, h1.2.2.1⟩, fun q2 r2 h2 => ⟨⟨ur h2, uc, hy, h2.2.2.1⟩, fun q3 r3 h3 => ⟨⟨ur h3, ud, hy, h3.2.2.1⟩, fun q4 r4 h4 => ?_⟩⟩⟩⟩
  refine isN_v ⟨⟨h1.1, h2.1, h3.1, h4.1⟩, ?_⟩
  have e : t * W4 + nval a b c d = r4 + nval q1 q2 q3 q4 * y := by
    have e1 := h1.2.2.2
    have e2 := h2.2.2.2
    have e3 := h3.2.2.2
    have e4 := h4.2.2.2
    unfold nval W4
    rw [Int.add_mul, Int.add_mul, Int.add_mul, Int.mul_right_comm q1, Int.mul_right_comm q2, Int.mul_right_comm q3]
    generalize q1 * y = p1 at *
    generalize q2 * y = p2 at *
    generalize q3 * y = p3 at *
    generalize q4 * y = p4 at *
    omega
  have y0 : y ≠ 0 := by have := h4.2.1; have := h4.2.2.1; omega
  rw [e, Int.add_mul_ediv_right _ _ y0, Int.ediv_eq_zero_of_lt h4.2.1 h4.2.2.1, Int.zero_add]
theorem c_trmulI {a b c d x y z u : Int} (hA : U4 a b c d) (hB : U4 x y z u) : Ans Tryz.prog Φ 90 [vN a b c d, vN x y z u] (vNat (mulI (nval a b c d) (nval x y z u))) := by
  rw [← mulI_nval hA hB]
  exact c_trmul hst hA hB
end Go.Proofs.YtikbpleaaaeibaaGreat
