/- Several texts in one: SpecA, VcA, CtA, SpecB, SpecC, VcB. -/
import Derived.Test.YtkcelhhhbbpbpaaDoorProg
import Derived.Test.YtkcelhhhbbpbpaaDoorAbs
import Derived.Test.YtkcelhhhbbpbpaaDoorBase
import Derived.Test.YtkcelhhhbbpbpaaDoorTextD
/- What the functions of angle over numbers and arcs answer. -/
namespace Go.Proofs.YtkcelhhhbbpbpaaDoor
open Go Go.Abs Go.RowKit

def Fit (n : Int) : Prop := -1099511627776 ≤ n ∧ n ≤ 1099511627776
instance (n : Int) : Decidable (Fit n) := by unfold Fit; infer_instance
def Val (a b : Int) : Prop := a ≤ b ∧ -1099511627776 ≤ a ∧ b ≤ 1099511627776
instance (a b : Int) : Decidable (Val a b) := by unfold Val; infer_instance
instance (n : Int) : Decidable (I64 n) := by unfold I64; infer_instance
abbrev arc (a b : Int) : Value := .agg ⟨[.int .i64 a, .int .i64 b]⟩
abbrev pair (a b : Value) : Value := .tuple ⟨[a, b]⟩
abbrev num (n : Int) : Value := .int .i64 n
def sFits : FSpec := fun | [.int .i64 n] => some (True, .bool (decide (Fit n))) | _ => none
def sVal : FSpec := fun | [.agg ⟨[.int .i64 a, .int .i64 b]⟩] => some (True, .bool (decide (Val a b))) | _ => none
def sWrap : FSpec := fun | [.int .i64 n] => some (True, num (n % 21600000)) | _ => none
def Den (d : Int) : Prop := 1 ≤ d ∧ d ≤ 9223372036854775807
def sFloor : FSpec := fun | [.int .i64 n, .int .i64 d] => some (I64 n ∧ Den d, num (n / d)) | _ => none
def pick (c : Prop) [Decidable c] (x y : Int) : Int := if c then x else y
def gate (c : Prop) [Decidable c] (x : Int) : Int := if c then x else 0
def Γ0 : List (FuncId × CSpec) := [(30, .v sFits)]
end Go.Proofs.YtkcelhhhbbpbpaaDoor

/- Contracts of the functions of angle over numbers and arcs. -/
namespace Go.Proofs.YtkcelhhhbbpbpaaDoor
open Go Go.Abs Go.RowKit
set_option linter.unusedVariables false
set_option linter.unusedSimpArgs false
theorem vc_fits (n : Int) (K : Value → Prop) : callsX Tryd.prog ([]) (noAnn) 30 [num n] K = (
 bcase (decide (n ≥ -1099511627776)) (K (Value.bool (decide (n ≤ 1099511627776)))) (K (Value.bool false))) := by kernel_rfl
end Go.Proofs.YtkcelhhhbbpbpaaDoor

/- Contracts of the functions of angle over numbers and arcs. -/
namespace Go.Proofs.YtkcelhhhbbpbpaaDoor
open Go Go.Abs Go.RowKit
set_option linter.unusedVariables false
set_option linter.unusedSimpArgs false
theorem eq_pair {a b c d : Value} (h : a = c) (k : b = d) : Value.tuple #[a, b] = pair c d := by rw [h, k]
theorem eq_arc {a b c d : Int} (h : a = c) (k : b = d) : Value.agg #[.int .i64 a, .int .i64 b] = arc c d := by rw [h, k]
theorem eq_num {k : IntKind} {a b : Int} (h : a = b) : Value.int k a = .int k b := by rw [h]
theorem eq_bool {a b : Bool} (h : a = b) : Value.bool a = .bool b := by rw [h]
theorem eq_dec {p q : Prop} [Decidable p] [Decidable q] (h : p ↔ q) : Value.bool (decide p) = .bool (decide q) := by simp [h]
theorem eq_yes {p : Prop} [Decidable p] (h : p) : Value.bool true = .bool (decide p) := by simp [h]
theorem eq_no {p : Prop} [Decidable p] (h : ¬ p) : Value.bool false = .bool (decide p) := by simp [h]
theorem tmod_case (n t : Int) (h : 0 < t) : (n.tmod t < 0 ∧ n.tmod t = n % t - t) ∨ (0 ≤ n.tmod t ∧ n.tmod t = n % t) := by
  have h1 := Int.emod_nonneg n (b := t) (by omega)
  have h2 := Int.emod_lt_of_pos n h
  rw [Int.tmod_eq_emod]
  split <;> omega
theorem tdiv_case (n t : Int) (h : 0 < t) : (n.tmod t < 0 ∧ n.tdiv t = n / t + 1) ∨ (0 ≤ n.tmod t ∧ n.tdiv t = n / t) := by
  have e1 := Int.mul_tdiv_add_tmod n t
  have e2 := Int.mul_ediv_add_emod n t
  rcases tmod_case n t h with ⟨c, e⟩ | ⟨c, e⟩
  · refine .inl ⟨c, ?_⟩
    have : t * n.tdiv t = t * (n / t + 1) := by rw [Int.mul_add]; omega
    exact Int.eq_of_mul_eq_mul_left (by omega) this
  · refine .inr ⟨c, ?_⟩
    have : t * n.tdiv t = t * (n / t) := by omega
    exact Int.eq_of_mul_eq_mul_left (by omega) this
variable {Φ : World → Prop} (hst : ∀ w w', Φ w → Below w.heap.size w w' → Φ w')
include hst

theorem c_fits (n : Int) : Ans Tryd.prog Φ 30 [num n] (.bool (decide (Fit n))) := by
  refine fn_by hst Sound.nil (vc_fits n _) ?_
  simp only [bcase_iff, true_and, and_true, decide_eq_true_eq, decide_eq_false_iff_not, Bool.not_eq_true', Bool.not_eq_false', Bool.not_true, Bool.not_false, beq_iff_eq, beq_eq_false_iff_ne, bne_iff_ne, ne_eq, bne_eq_false_iff_eq, Decidable.not_not, ge_iff_le, gt_iff_lt, Bool.not_eq_true, Bool.and_eq_true, Bool.or_eq_true, forall_const, imp_false, implies_true, Bool.true_eq_false, Bool.false_eq_true, false_implies, true_implies, Int.not_lt, Int.not_le, Int.zero_sub]
  repeat' (first | intro _ | apply And.intro)
  all_goals (try (repeat' (first | exact rfl | apply eq_pair | apply eq_arc | apply eq_num | apply eq_dec | apply eq_no | apply eq_yes)))
  all_goals unfold Fit; omega
theorem s_fits : Sound Tryd.prog Φ [(30, .v sFits)] :=
  Sound.cons (by kernel_rfl) (fun args p v h _ => by unfold sFits at h; split at h <;> cases h; exact c_fits hst _) Sound.nil
omit hst in
theorem quo_bd {n d : Int} (hn : I64 n) (hd : 1 ≤ d) : I64 (n / d) := ediv_bd hd hn.1 hn.2 (by omega) (by omega)
theorem s0 : Sound Tryd.prog Φ Γ0 := by
  unfold Γ0
  refine Sound.cons (by kernel_rfl) (fun args p v h _ => by unfold sFits at h; split at h <;> cases h; exact c_fits hst _) ?_
  exact Sound.nil
end Go.Proofs.YtkcelhhhbbpbpaaDoor

/- What the functions of angle over texts answer, and the lists of what is known for the laws. -/
namespace Go.Proofs.YtkcelhhhbbpbpaaDoor
open Go Go.Abs Go.RowKit

def textL (n : Int) : List UInt8 := if n < 0 then 45 :: coreL n.natAbs else coreL n.natAbs
def textB (n : Int) : ByteArray := ⟨(textL n).toArray⟩
def rnd (n : Int) : Int := (n + 50) / 100 * 100
def sTextI : FSpec := fun | [.int .i64 n] => some (Fit n, .string (textB n)) | _ => none
def okText (n : Int) : ByteArray := if Fit n then textB n else ⟨#[]⟩
def sText : FSpec := fun | [.int .i64 n] => some (True, pair (.string (okText n)) (num (pick (Fit n) 0 5))) | _ => none
def printL (a b : Int) : List UInt8 := if rnd a = rnd b then textL (rnd a) else textL (rnd a) ++ [32, 46, 46, 32] ++ textL (rnd b)
def prints (a b : Int) : Prop := Val a b ∧ Fit (rnd a) ∧ Fit (rnd b)
instance (a b : Int) : Decidable (prints a b) := by unfold prints; infer_instance
def printB (a b : Int) : ByteArray := ⟨(if prints a b then printL a b else []).toArray⟩
def sPrint : FSpec := fun | [.agg ⟨[.int .i64 a, .int .i64 b]⟩] => some (True, pair (.string (printB a b)) (num (pick (Val a b) (pick (Fit (rnd a) ∧ Fit (rnd b)) 0 5) 1))) | _ => none
def sYes : FSpec := fun | [] => some (True, .bool true) | _ => none
end Go.Proofs.YtkcelhhhbbpbpaaDoor

/- The lists of what is known for the laws of angle. -/
namespace Go.Proofs.YtkcelhhhbbpbpaaDoor
open Go Go.Abs Go.RowKit
def Γ3 : List (FuncId × CSpec) := (31, .v sTextI) :: Γ0
end Go.Proofs.YtkcelhhhbbpbpaaDoor

/- What the laws of angle ask. -/
namespace Go.Proofs.YtkcelhhhbbpbpaaDoor
open Go Go.Abs Go.RowKit
set_option linter.unusedVariables false
set_option linter.unusedSimpArgs false
theorem vc_text (n : Int) (K : Value → Prop) : callsX Tryd.prog (Γ3) (noAnn) 17 [num n] K = (
 True ∧ bcase (!decide (Fit n)) (K (Value.tuple #[Value.string (ByteArray.mk #[]), Value.int IntKind.i64 5])) (Fit n ∧ K (Value.tuple #[Value.string (textB n), Value.int IntKind.i64 0]))) := by kernel_rfl
end Go.Proofs.YtkcelhhhbbpbpaaDoor
