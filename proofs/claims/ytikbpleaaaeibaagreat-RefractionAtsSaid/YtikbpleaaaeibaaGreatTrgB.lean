/- The program's numbers with 256 digits: words, and the contracts of their differences and quotients. -/
import Derived.Test.YtikbpleaaaeibaaGreatTrgV
import Derived.Test.YtikbpleaaaeibaaGreatBase
import Derived.Test.YtikbpleaaaeibaaGreatCtD
import Derived.Laws.Externs
namespace Go.Proofs.YtikbpleaaaeibaaGreat
open Go Go.Abs Go.RowKit
set_option linter.unusedVariables false
set_option linter.unusedSimpArgs false
theorem bit_lt {c : Int} (h : Bit c) : 0 ≤ c ∧ c ≤ 1 := by rcases h with rfl | rfl <;> decide
theorem bit_u {c : Int} (h : Bit c) : U64 c := by rcases h with rfl | rfl <;> exact ⟨by decide, by decide⟩
theorem wrap_u64 {n : Int} (h : 0 ≤ n ∧ n < 18446744073709551616) : IntKind.u64.wrap n = n := by
  show n % 18446744073709551616 = n
  omega
/-- The number with a value. -/
abbrev vNat (n : Int) : Value := vN (n / 6277101735386680763835789423207666416102355444464034512896) (n / 340282366920938463463374607431768211456 % 18446744073709551616) (n / 18446744073709551616 % 18446744073709551616) (n % 18446744073709551616)
theorem vNat_nval {a b c d : Int} (h : U4 a b c d) : vNat (nval a b c d) = vN a b c d := by
  obtain ⟨⟨a0, a1⟩, ⟨b0, b1⟩, ⟨c0, c1⟩, d0, d1⟩ := h
  have e1 : nval a b c d / 6277101735386680763835789423207666416102355444464034512896 = a := by unfold nval; omega
  have e2 : nval a b c d / 340282366920938463463374607431768211456 % 18446744073709551616 = b := by unfold nval; omega
  have e3 : nval a b c d / 18446744073709551616 % 18446744073709551616 = c := by unfold nval; omega
  have e4 : nval a b c d % 18446744073709551616 = d := by unfold nval; omega
  unfold vNat
  rw [e1, e2, e3, e4]
theorem nval_lt {a b c d : Int} (h : U4 a b c d) : 0 ≤ nval a b c d ∧ nval a b c d < 115792089237316195423570985008687907853269984665640564039457584007913129639936 := by
  obtain ⟨⟨a0, a1⟩, ⟨b0, b1⟩, ⟨c0, c1⟩, d0, d1⟩ := h
  unfold nval
  omega
/-- The words of a number. -/
theorem words {n : Int} (h0 : 0 ≤ n) (h1 : n < 115792089237316195423570985008687907853269984665640564039457584007913129639936) : ∃ a b c d, U4 a b c d ∧ nval a b c d = n := by
  refine ⟨n / 6277101735386680763835789423207666416102355444464034512896, n / 340282366920938463463374607431768211456 % 18446744073709551616, n / 18446744073709551616 % 18446744073709551616, n % 18446744073709551616, ⟨⟨?_, ?_⟩, ⟨?_, ?_⟩, ⟨?_, ?_⟩, ?_, ?_⟩, ?_⟩
  all_goals (try unfold nval); omega
theorem mul_end {a b c d e f P k : Int} (h : U4 a b c d) (he : U64 e) (hf : U64 f) (hk : 0 ≤ k) (hs : six a b c d e f + k * 39402006196394479212279040100143613805079739270465446667948293404245721771497210611414266254884915640806627990306816 = P) (hP : P < 39402006196394479212279040100143613805079739270465446667948293404245721771497210611414266254884915640806627990306816) :
    vNat (P / 340282366920938463463374607431768211456) = vN a b c d := by
  have e1 : P / 340282366920938463463374607431768211456 = nval a b c d := by
    obtain ⟨⟨a0, a1⟩, ⟨b0, b1⟩, ⟨c0, c1⟩, d0, d1⟩ := h
    obtain ⟨e0, e1⟩ := he
    obtain ⟨f0, f1⟩ := hf
    unfold six at hs
    unfold nval
    omega
  rw [e1, vNat_nval h]
variable {Φ : World → Prop}
theorem h_add (hΦ : True) : ∀ args p Q, eAdd64 args = some (p, Q) → p → ∀ K, Q K → ∃ v, K v ∧ ∀ w, (callFunc 104 args.toArray).run Tryz.prog w = .ok (.value v) w := by
  intro args p Q h hp K hK
  unfold eAdd64 at h
  split at h <;> cases h
  rename_i x y c
  obtain ⟨⟨x0, x1⟩, ⟨y0, y1⟩, hc⟩ := hp
  have hc := bit_lt hc
  refine ⟨_, hK ((x + y + c) % 18446744073709551616) ((x + y + c) / 18446744073709551616) ⟨⟨by omega, by omega⟩, ?_, by omega⟩, fun w => ?_⟩
  · unfold Bit; omega
  · rw [run_callFunc_extern Tryz.func104 (by kernel_rfl) (by kernel_rfl) (by kernel_rfl) (e := add64Entry) (by kernel_rfl)]
    rw [show ([Value.int .u64 x, .int .u64 y, .int .u64 c] : List Value).toArray = #[.int .u64 x, .int .u64 y, .int .u64 c] from rfl, run_add64 x y c x0 y0 hc.1 hc.2]
    rfl
/-- The model's entry of Sub64. -/
def subEntry : Array Value → Sem Value := fun args => do
  let (x, y, b) ← Extern.MathBitsCarry.three "Sub64" args
  pure (Extern.MathBitsCarry.pair ((x + Extern.MathBitsCarry.m64 - y - b) % Extern.MathBitsCarry.m64) (if x < y + b then 1 else 0))
theorem run_subE (x y b : Nat) (hb : b ≤ 1) (w : World) :
    (subEntry #[.int .u64 x, .int .u64 y, .int .u64 b]).run Tryz.prog w =
      .ok (.tuple #[.int .u64 (((x + 18446744073709551616 - y - b) % 18446744073709551616 : Nat) : Int), .int .u64 ((if x < y + b then 1 else 0 : Nat) : Int)]) w := by
  have : b = 0 ∨ b = 1 := by omega
  rcases this with rfl | rfl <;> rfl
theorem h_sub (hΦ : True) : ∀ args p Q, eSub64 args = some (p, Q) → p → ∀ K, Q K → ∃ v, K v ∧ ∀ w, (callFunc 106 args.toArray).run Tryz.prog w = .ok (.value v) w := by
  intro args p Q h hp K hK
  unfold eSub64 at h
  split at h <;> cases h
  rename_i x y c
  obtain ⟨⟨x0, x1⟩, ⟨y0, y1⟩, hc⟩ := hp
  have hc := bit_lt hc
  obtain ⟨x, rfl⟩ := Int.eq_ofNat_of_zero_le x0
  obtain ⟨y, rfl⟩ := Int.eq_ofNat_of_zero_le y0
  obtain ⟨c, rfl⟩ := Int.eq_ofNat_of_zero_le hc.1
  refine ⟨_, hK (((x + 18446744073709551616 - y - c) % 18446744073709551616 : Nat) : Int) ((if x < y + c then 1 else 0 : Nat) : Int) ⟨⟨by omega, by omega⟩, ?_, ?_⟩, fun w => ?_⟩
  · unfold Bit; split <;> simp
  · split <;> omega
  · rw [run_callFunc_extern Tryz.func106 (by kernel_rfl) (by kernel_rfl) (by kernel_rfl) (e := subEntry) (by kernel_rfl)]
    rw [show ([Value.int .u64 (x : Int), .int .u64 (y : Int), .int .u64 (c : Int)] : List Value).toArray = #[.int .u64 (x : Int), .int .u64 (y : Int), .int .u64 (c : Int)] from rfl, run_subE x y c (by omega)]
    rfl
variable (hst : ∀ w w', Φ w → Below w.heap.size w w' → Φ w')
include hst
theorem h_mul : ∀ args p Q, qMul64 args = some (p, Q) → p → ∀ K, Q K → ∃ v, Ans Tryz.prog Φ 73 args v ∧ K v := by
  intro args p Q h hp K hK
  unfold qMul64 at h
  split at h <;> cases h
  rename_i x y
  refine ⟨_, c_mul64 hst x y hp.1 hp.2, hK _ _ ?_⟩
  obtain ⟨⟨x0, x1⟩, y0, y1⟩ := hp
  have p0 : 0 ≤ x * y := Int.mul_nonneg x0 y0
  have p1 : x * y ≤ 18446744073709551615 * 18446744073709551615 := Int.mul_le_mul (by omega) (by omega) y0 (by decide)
  unfold MulR U64
  generalize x * y = p at *
  omega
theorem h_div : ∀ args p Q, qDiv64 args = some (p, Q) → p → ∀ K, Q K → ∃ v, Ans Tryz.prog Φ 95 args v ∧ K v := by
  intro args p Q h hp K hK
  unfold qDiv64 at h
  split at h <;> cases h
  rename_i h l y
  refine ⟨_, c_div64 hst h l y hp.1 hp.2.1 hp.2.2.1 hp.2.2.2, hK _ _ ?_⟩
  obtain ⟨⟨h0, h1⟩, ⟨l0, l1⟩, ⟨y0, y1⟩, hy⟩ := hp
  have yp : 0 < y := by omega
  have e := Int.mul_ediv_add_emod (h * 18446744073709551616 + l) y
  have m0 := Int.emod_nonneg (h * 18446744073709551616 + l) (Int.ne_of_gt yp)
  have m1 := Int.emod_lt_of_pos (h * 18446744073709551616 + l) yp
  have q0 : 0 ≤ (h * 18446744073709551616 + l) / y := Int.ediv_nonneg (by omega) y0
  have q1 : (h * 18446744073709551616 + l) / y < 18446744073709551616 := by
    apply Int.ediv_lt_of_lt_mul yp
    have : (h + 1) * 18446744073709551616 ≤ y * 18446744073709551616 := Int.mul_le_mul_of_nonneg_right (by omega) (by decide)
    rw [Int.mul_comm 18446744073709551616]
    omega
  refine ⟨⟨q0, q1⟩, m0, m1, ?_⟩
  rw [Int.mul_comm ((h * 18446744073709551616 + l) / y)]
  exact e.symm
theorem s_Tm : Sound Tryz.prog Φ ΓTm := Sound.econs (h_add trivial) (Sound.qcons (by kernel_rfl) (h_mul hst) Sound.nil)
theorem s_Td : Sound Tryz.prog Φ ΓTd := Sound.qcons (by kernel_rfl) (h_div hst) Sound.nil
omit hst in
theorem s_Ts : Sound Tryz.prog Φ ΓTs := Sound.econs (h_sub trivial) Sound.nil
end Go.Proofs.YtikbpleaaaeibaaGreat
