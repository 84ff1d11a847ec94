/- Small lemmas for all of the seat's proofs: endings, quotients, worlds. No program is in sight here. -/
import Derived.Below
import Derived.Lib.Hide
import Derived.Deep.Draws
import Derived.Deep.QuietTactic
namespace Go.Proofs.YtjdcicjhpegphaaGreat
open Go Go.RowKit

/-- An int fits. -/
def I64 (n : Int) : Prop := -9223372036854775808 ≤ n ∧ n ≤ 9223372036854775807
theorem I64.lo {n : Int} (h : I64 n) : -9223372036854775808 ≤ n := h.1
theorem I64.hi {n : Int} (h : I64 n) : n ≤ 9223372036854775807 := h.2
theorem ret_int {k : IntKind} {a b : Int} (h : a = b) : Ending.returned (.int k a) = .returned (.int k b) := by rw [h]
theorem ret_bool {a b : Bool} (h : a = b) : Ending.returned (.bool a) = .returned (.bool b) := by rw [h]
theorem ret_ib {p q : Int} {a b : Bool} (hp : p = q) (h : a = b) : Ending.returned (.tuple #[.int .i64 p, .bool a]) = .returned (.tuple #[.int .i64 q, .bool b]) := by rw [hp, h]
theorem ret_eq {a b : Value} (h : a = b) : Ending.returned a = .returned b := by rw [h]

theorem tmod_lt_zero_floor {a b : Int} (hb : 0 < b) (h : a.tmod b < 0) : a.tdiv b - 1 = a / b := by
  have h1 := Int.tmod_add_mul_tdiv a b
  have h2 := Int.lt_tmod_of_pos a hb
  symm
  rw [Int.ediv_eq_iff_of_pos hb, Int.sub_mul, Int.one_mul, Int.mul_comm (a.tdiv b)]
  constructor <;> omega
theorem tmod_nonneg_floor {a b : Int} (hb : 0 < b) (h : 0 ≤ a.tmod b) : a.tdiv b = a / b := by
  have h1 := Int.tmod_add_mul_tdiv a b
  have h2 := Int.tmod_lt_of_pos a hb
  symm
  rw [Int.ediv_eq_iff_of_pos hb, Int.mul_comm (a.tdiv b)]
  constructor <;> omega
theorem neg_floor {a b : Int} (hb : 0 < b) : -(-a / b) = if a % b = 0 then a / b else a / b + 1 := by
  have h1 := Int.emod_add_mul_ediv a b
  have h3 := Int.emod_nonneg a (show b ≠ 0 by omega)
  have h4 := Int.emod_lt_of_pos a hb
  split
  · have : -a / b = -(a / b) := by rw [Int.ediv_eq_iff_of_pos hb, Int.neg_mul, Int.mul_comm]; omega
    omega
  · have : -a / b = -(a / b) - 1 := by rw [Int.ediv_eq_iff_of_pos hb, Int.sub_mul, Int.neg_mul, Int.mul_comm]; omega
    omega
theorem tmod_pos_ceil {a b : Int} (hb : 0 < b) (h : 0 < a.tmod b) : a.tdiv b + 1 = -(-a / b) := by
  have h1 : a.tmod b + b * a.tdiv b = a := Int.tmod_add_mul_tdiv a b
  have h2 := Int.tmod_lt_of_pos a hb
  have : -a / b = -(a.tdiv b) - 1 := by rw [Int.ediv_eq_iff_of_pos hb, Int.sub_mul, Int.neg_mul, Int.mul_comm]; omega
  omega
theorem tmod_nonpos_ceil {a b : Int} (hb : 0 < b) (h : a.tmod b ≤ 0) : a.tdiv b = -(-a / b) := by
  have h1 : a.tmod b + b * a.tdiv b = a := Int.tmod_add_mul_tdiv a b
  have h2 := Int.lt_tmod_of_pos a hb
  have : -a / b = -(a.tdiv b) := by rw [Int.ediv_eq_iff_of_pos hb, Int.neg_mul, Int.mul_comm]; omega
  omega
/-- The remainder of Go, of a negative number, is below zero or zero. -/
theorem tmod_emod {a b : Int} (hb : 0 < b) : a.tmod b = if a.tmod b < 0 then a % b - b else a % b := by
  have h1 : a.tmod b + b * a.tdiv b = a := Int.tmod_add_mul_tdiv a b
  have h2 := Int.emod_add_mul_ediv a b
  split
  · next h => have h3 := tmod_lt_zero_floor hb h; rw [← h3, Int.mul_sub, Int.mul_one] at h2; omega
  · next h => have h3 := tmod_nonneg_floor (a := a) hb (by omega); rw [← h3] at h2; omega
/-- Bounds of a quotient. -/
theorem ediv_bd {a b lo hi : Int} (hb : 1 ≤ b) (h1 : lo ≤ a) (h2 : a ≤ hi) (hlo : lo ≤ 0) (hhi : 0 ≤ hi) : lo ≤ a / b ∧ a / b ≤ hi := by
  have hb' : 0 < b := by omega
  constructor
  · rw [Int.le_ediv_iff_mul_le hb']
    have : lo * b ≤ lo * 1 := Int.mul_le_mul_of_nonpos_left (by omega) (by omega)
    omega
  · rw [Int.ediv_le_iff_le_mul hb']
    have : hi * 1 ≤ hi * b := Int.mul_le_mul_of_nonneg_left (by omega) (by omega)
    omega
theorem tdiv_bd {a b lo hi : Int} (hb : 1 ≤ b) (h1 : lo ≤ a) (h2 : a ≤ hi) (hlo : lo ≤ 0) (hhi : 0 ≤ hi) : lo - 1 ≤ a.tdiv b ∧ a.tdiv b ≤ hi + 1 := by
  have := ediv_bd hb h1 h2 hlo hhi
  by_cases h : a.tmod b < 0
  · have := tmod_lt_zero_floor (by omega : 0 < b) h; omega
  · have := tmod_nonneg_floor (by omega : 0 < b) (by omega : 0 ≤ a.tmod b); omega
/-- Bounds of a product. -/
theorem mul_bd {x y X Y : Int} (h : -X ≤ x ∧ x ≤ X) (k : -Y ≤ y ∧ y ≤ Y) : -(X*Y) ≤ x*y ∧ x*y ≤ X*Y := by
  have h1 : 0 ≤ (X - x) * (Y + y) := Int.mul_nonneg (by omega) (by omega)
  have h2 : 0 ≤ (X + x) * (Y - y) := Int.mul_nonneg (by omega) (by omega)
  have h3 : 0 ≤ (X - x) * (Y - y) := Int.mul_nonneg (by omega) (by omega)
  have h4 : 0 ≤ (X + x) * (Y + y) := Int.mul_nonneg (by omega) (by omega)
  grind
theorem tmod_bd {a b : Int} (hb : 1 ≤ b) : -b < a.tmod b ∧ a.tmod b < b := ⟨Int.lt_tmod_of_pos a (by omega), Int.tmod_lt_of_pos a (by omega)⟩

theorem bcell {W w1 : World} (hb : Below W.heap.size W w1) : (∀ b o, b < W.heap.size → w1.cell? ⟨b, o, none⟩ = W.cell? ⟨b, o, none⟩) ∧ (∀ b o, b < W.heap.size → w1.frozen? ⟨b, o, none⟩ = W.frozen? ⟨b, o, none⟩) :=
  ⟨fun b o h => hb.cell (p := ⟨b, o, none⟩) h, fun b o h => hb.frozen (p := ⟨b, o, none⟩) h⟩
theorem below_drewN {B : Nat} {a w : World} (h : Below B a w) (n : Nat) : Below B a (w.drewN n) := ⟨h.os, h.tape, h.output, h.size, h.block⟩
theorem below_alloc {a w : World} (h : Below a.heap.size a w) (o : Obj) : Below a.heap.size a (w.alloc o) := h.alloc h.size o

/-! Quiet calls whose contracts say 'w = w''. -/
theorem quiet_same {P : Program} {f : FuncId} {args : Array Value} {w : World} {v : Value}
    (h : Calls P f args w fun e w' => e = .returned v ∧ w = w') : Calls P f args w fun e w'' => e = .returned v ∧ ∃ m, w'' = w.drewN m :=
  h.mono fun _ _ ⟨he, hm⟩ => ⟨he, 0, hm.symm⟩
theorem quiet_left {P : Program} {f : FuncId} {args : Array Value} {w : World} {n : Nat} {v : Value}
    (h : Calls P f args (w.drewN n) fun e w' => e = .returned v ∧ w.drewN n = w') : Calls P f args (w.drewN n) fun e w'' => e = .returned v ∧ ∃ m, w'' = w.drewN m :=
  h.mono fun _ _ ⟨he, hm⟩ => ⟨he, n, hm.symm⟩
theorem quiet_add_left {P : Program} {f : FuncId} {args : Array Value} {w : World} {a n : Nat} {v : Value}
    (h : Calls P f args (w.drewN (a + n)) fun e w' => e = .returned v ∧ w.drewN (a + n) = w') :
    Calls P f args (w.drewN (a + n)) fun e w'' => e = .returned v ∧ ∃ m, w'' = w.drewN (a + m) :=
  h.mono fun _ _ ⟨he, hm⟩ => ⟨he, n, hm.symm⟩
end Go.Proofs.YtjdcicjhpegphaaGreat
