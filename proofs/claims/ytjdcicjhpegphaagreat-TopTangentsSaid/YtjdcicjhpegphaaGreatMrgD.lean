/- Several texts in one: CtQ, FixS, FixV, FixC, FmS, FmV, FmC, AnS, AnV, AnC. -/
import Derived.Test.YtjdcicjhpegphaaGreatMrgB
import Derived.Test.YtjdcicjhpegphaaGreatMrgC
/- Contracts of quotient, Floor, Ceil. -/
namespace Go.Proofs.YtjdcicjhpegphaaGreat
open Go Go.Abs Go.RowKit
set_option linter.unusedVariables false
set_option linter.unusedSimpArgs false
/-- One more, if something is left and it counts. -/
def more (R : Int) (c : Bool) : Int := if R > 0 ∧ c = true then 1 else 0
theorem neg_ediv' {A m : Int} (hm : 0 < m) : (-A) / m = -(A / m + more (A % m) true) := by
  have e := Int.mul_ediv_add_emod A m
  have r0 := Int.emod_nonneg A (show m ≠ 0 by omega)
  have r1 := Int.emod_lt_of_pos A hm
  generalize A / m = Q at *
  generalize A % m = R at *
  unfold more
  by_cases h : R > 0
  · rw [if_pos ⟨h, rfl⟩]
    have : -A = (m - R) + (-(Q + 1)) * m := by rw [← e]; grind
    rw [this, Int.add_mul_ediv_right _ _ (by omega), Int.ediv_eq_zero_of_lt (by omega) (by omega)]
    omega
  · have : R = 0 := by omega
    subst this
    rw [if_neg (fun q => h q.1)]
    have : -A = (-Q) * m := by rw [← e]; grind
    rw [this, Int.mul_ediv_cancel _ (by omega)]
    omega
theorem quoI_abs {V n : Int} (up : Bool) (hn : n ≠ 0) :
    quoI V n up = if decide (V < 0) = decide (n < 0) then absI V / absI n + more (absI V % absI n) up else -(absI V / absI n + more (absI V % absI n) (!up)) := by
  have em : ∀ x : Int, more x false = 0 := fun x => by unfold more; simp
  have fd : ∀ {a m : Int}, 0 < m → a.fdiv m = a / m := fun {a m} h => Int.fdiv_eq_ediv_of_nonneg a (by omega)
  have fn : ∀ {a m : Int}, m < 0 → a.fdiv m = (-a) / (-m) := fun {a m} h => by rw [← fd (by omega), Int.neg_fdiv_neg]
  unfold quoI
  rcases absI_cases V with ⟨h1, e1⟩ | ⟨h1, e1⟩ <;> rcases absI_cases n with ⟨h2, e2⟩ | ⟨h2, e2⟩ <;> rw [e1, e2] <;> cases up <;> simp only [Bool.false_eq_true, if_false, if_true, Bool.not_true, Bool.not_false, em]
  · rw [if_pos (by simp [h1, h2]), fn h2]; omega
  · rw [if_pos (by simp [h1, h2]), fn h2, neg_ediv' (by omega)]; omega
  · rw [if_neg (by simp [h1]; omega), fd (by omega), show V = -(-V) by omega, neg_ediv' (by omega), Int.neg_neg]
  · rw [if_neg (by simp [h1]; omega), fd (by omega)]; omega
  · rw [if_neg (by simp [h2]; omega), fn h2, neg_ediv' (by omega)]
  · rw [if_neg (by simp [h2]; omega), fn h2, Int.neg_neg]; omega
  · rw [if_pos (by simp; omega), fd (by omega)]; omega
  · rw [if_pos (by simp; omega), fd (by omega), neg_ediv' (by omega)]; omega
variable {Φ : World → Prop} (hst : ∀ w w', Φ w → Below w.heap.size w w' → Φ w')
include hst
theorem s_quo : Sound Tryz.prog Φ ΓQ :=
  Sound.cons (by kernel_rfl) (fun args p v h hp => by unfold sWSizeOf at h; split at h <;> cases h; exact c_wsizeof hst _ _ hp)
  (Sound.cons (by kernel_rfl) (fun args p v h hp => by unfold sWAbs at h; split at h <;> cases h; exact c_wabs hst _ hp)
  (Sound.cons (by kernel_rfl) (fun args p v h hp => by unfold sDiv64 at h; split at h <;> cases h; exact c_div64 hst _ _ _ hp.1 hp.2.1 hp.2.2.1 hp.2.2.2) (s_wvalid hst)))
omit hst in
theorem q_ok {h l b x : Int} {up : Bool} (hv : WV h l) (hb : b ≠ 0) (hx : x = quoI (val h l) b up) (hi : I64 x) : Value.tuple #[.int .i64 x, .int .i64 0] = qAns h l b up := by
  subst hx
  exact eq_pair (eq_num (gate_yes (show okQ h l b up from ⟨hv, hb, hi⟩) _).symm) (eq_num (by rw [pick_yes hv, pick_no hb, pick_yes hi]))
omit hst in
theorem q_big {h l b : Int} {up : Bool} (hv : WV h l) (hb : b ≠ 0) (hi : ¬ I64 (quoI (val h l) b up)) : Value.tuple #[.int .i64 0, .int .i64 5] = qAns h l b up :=
  eq_pair (eq_num (gate_no (fun q : okQ h l b up => hi q.2.2) _).symm) (eq_num (by rw [pick_yes hv, pick_no hb, pick_no hi]))
theorem c_wquotient (a b n : Int) (up : Bool) (hn : I64 n) : Ans Tryz.prog Φ 169 [wid a b, num n, .bool up] (qAns a b n up) := by
  refine fn_by hst (s_quo hst) (vc_wquotient a b n up _) ?_
  refine ⟨trivial, ?_⟩
  by_cases hv : ¬ WV a b
  · rw [decide_eq_false hv]
    exact eq_pair (eq_num (gate_no (fun q : okQ a b n up => hv q.1) _).symm) (eq_num (by rw [pick_no hv]))
  have hv := Decidable.not_not.1 hv
  rw [decide_eq_true hv]
  by_cases hz : n = 0
  · subst hz
    exact eq_pair (eq_num (gate_no (fun q : okQ a b 0 up => q.2.1 rfl) _).symm) (eq_num (by rw [pick_yes hv, pick_yes rfl]))
  have hz' : (n == 0) = false := by simp [hz]
  rw [hz']
  refine ⟨hv, hn, ?_⟩
  have ok := @q_ok a b n
  have big := @q_big a b n up hv hz
  rw [quoI_abs up hz] at big
  have hq : ∀ x, x = quoI (val a b) n up → I64 x → Value.tuple #[.int .i64 x, .int .i64 0] = qAns a b n up := fun x => q_ok hv hz
  rw [quoI_abs up hz] at hq
  have hV : -1329227995784915872903807060280344576 ≤ val a b ∧ val a b < 1329227995784915872903807060280344576 := by unfold WV at hv; unfold val; omega
  unfold I64 at hn
  have qa := absI_cases (val a b)
  have qn := absI_cases n
  generalize val a b = V at *
  have hA0 : 0 ≤ absI V := by omega
  have hD : 0 < absI n := by omega
  have eA : absI V / 18446744073709551616 * 18446744073709551616 + absI V % 18446744073709551616 = absI V := by omega
  rw [eA]
  have r0 := Int.emod_nonneg (absI V) (show absI n ≠ 0 by omega)
  have r1 := Int.emod_lt_of_pos (absI V) hD
  have e := Int.mul_ediv_add_emod (absI V) (absI n)
  have q0 : 0 ≤ absI V / absI n := Int.ediv_nonneg hA0 (by omega)
  by_cases hb : absI V / 18446744073709551616 ≥ absI n
  · rw [decide_eq_true hb]
    refine big ?_
    have hbig : 18446744073709551616 ≤ absI V / absI n := (Int.le_ediv_iff_mul_le hD).2 (by omega)
    unfold I64 more
    split <;> split <;> omega
  rw [decide_eq_false hb]
  refine ⟨⟨by unfold U64; omega, by unfold U64; omega, by unfold U64; omega, by omega⟩, ?_⟩
  have hq1 : absI V / absI n < 18446744073709551616 := Int.ediv_lt_of_lt_mul hD (by rw [Int.mul_comm]; omega)
  generalize absI V / absI n = Q at *
  generalize absI V % absI n = R at *
  have w1 : ∀ {x : Int}, 0 ≤ x → x < 18446744073709551616 → IntKind.u64.wrap x = x := fun {x} h1 h2 => by rw [wrap_u]; omega
  have w3 : ∀ {x : Int}, 0 ≤ x → x ≤ 9223372036854775808 → IntKind.i64.wrap (IntKind.u64.wrap (0 - x)) = -x := fun {x} h1 h2 => by
    rw [wrap_u]
    rcases Int.lt_or_le 0 x with h | h
    · rw [wrap_up (by omega) (by omega)]; omega
    · have : x = 0 := by omega
      subst this; rfl
  have w4 : ∀ {x : Int}, 0 ≤ x → x < 9223372036854775808 → IntKind.i64.wrap x = x := fun {x} h1 h2 => wrap_in (by omega)
  generalize decide (V < 0) = s1 at *
  generalize decide (n < 0) = s2 at *
  generalize qAns a b n up = ans at *
  clear ok
  by_cases hR : R > 0
  · rw [decide_eq_true hR]
    by_cases hQ : Q = 18446744073709551615
    · have e1 : IntKind.u64.wrap (Q + 1) = 0 := by rw [hQ]; rfl
      rw [e1]
      unfold more I64 at big
      unfold more I64 at hq
      cases s1 <;> cases s2 <;> cases up <;> simp only [Bool.not_true, Bool.not_false, Bool.true_beq, Bool.false_beq, decide_true, decide_false, reduceCtorEq, Bool.true_eq_false, Bool.false_eq_true, beq_self_eq_true, true_implies, bcase_true, bcase_false, if_true, if_false, hR, true_and, and_true, and_false, Int.add_zero, hQ] at big hq ⊢ <;> first | exact big (by omega) | (simp only [bcase_iff, decide_eq_true_eq, decide_eq_false_iff_not]; exact ⟨fun h => absurd h (by decide), fun _ => big (by omega)⟩)
    · have e1 : IntKind.u64.wrap (Q + 1) = Q + 1 := w1 (by omega) (by omega)
      have e2 : (Q + 1 == 0) = false := by simp; omega
      rw [e1, e2]
      unfold more I64 at big
      unfold more I64 at hq
      cases s1 <;> cases s2 <;> cases up <;> simp only [Bool.not_true, Bool.not_false, Bool.true_beq, Bool.false_beq, decide_true, decide_false, reduceCtorEq, Bool.true_eq_false, Bool.false_eq_true, beq_self_eq_true, true_implies, bcase_true, bcase_false, if_true, if_false, hR, true_and, and_true, and_false, Int.add_zero] at big hq ⊢ <;> simp only [bcase_iff, decide_eq_true_eq, decide_eq_false_iff_not] <;> refine ⟨fun h => ?_, fun h => ?_⟩ <;>
        first | exact big (by omega) | (rw [w3 (by omega) (by omega)]; exact hq _ (by omega) (by omega)) | (rw [w4 (by omega) (by omega)]; exact hq _ (by omega) (by omega))
  · rw [decide_eq_false hR]
    unfold more I64 at big
    unfold more I64 at hq
    cases s1 <;> cases s2 <;> cases up <;> simp only [Bool.not_true, Bool.not_false, Bool.true_beq, Bool.false_beq, decide_true, decide_false, reduceCtorEq, Bool.true_eq_false, Bool.false_eq_true, beq_self_eq_true, true_implies, bcase_true, bcase_false, if_true, if_false, hR, true_and, and_true, and_false, false_and, Int.add_zero] at big hq ⊢ <;> simp only [bcase_iff, decide_eq_true_eq, decide_eq_false_iff_not] <;> refine ⟨fun h => ?_, fun h => ?_⟩ <;>
        first | exact big (by omega) | (rw [w3 (by omega) (by omega)]; exact hq _ (by omega) (by omega)) | (rw [w4 (by omega) (by omega)]; exact hq _ (by omega) (by omega))
theorem s_wquo : Sound Tryz.prog Φ ΓT :=
  Sound.cons (by kernel_rfl) (fun args p v h hp => by unfold sWQuotient at h; split at h <;> cases h; exact c_wquotient hst _ _ _ _ hp) Sound.nil
theorem c_wfloor (a b n : Int) (hn : I64 n) : Ans Tryz.prog Φ 154 [wid a b, num n] (qAns a b n false) := by
  refine fn_by hst (s_wquo hst) (vc_wfloor a b n _) ?_
  exact ⟨hn, rfl⟩
theorem c_wceil (a b n : Int) (hn : I64 n) : Ans Tryz.prog Φ 155 [wid a b, num n] (qAns a b n true) := by
  refine fn_by hst (s_wquo hst) (vc_wceil a b n _) ?_
  exact ⟨hn, rfl⟩
end Go.Proofs.YtjdcicjhpegphaaGreat

/- Quotients of intervals, by the program and by the reference: what they answer. -/
namespace Go.Proofs.YtjdcicjhpegphaaGreat
open Go Go.Abs Go.RowKit
set_option linter.unusedVariables false
/-- A number of an interval; a factor; a divisor. -/
def Q31 (n : Int) : Prop := -2147483648 ≤ n ∧ n ≤ 2147483648
def Q40 (n : Int) : Prop := -1099511627776 ≤ n ∧ n ≤ 1099511627776
instance (n : Int) : Decidable (Q40 n) := by unfold Q40; infer_instance
def FixV (a b : Int) : Prop := -2147483648 ≤ a ∧ a ≤ b ∧ b ≤ 2147483648
instance (a b : Int) : Decidable (FixV a b) := by unfold FixV; infer_instance
def flQ (x n d : Int) : Int := x * n / d
def ceQ (x n d : Int) : Int := -(-(x * n) / d)
/-- What enclose answers. -/
def eL (x n d : Int) : Int := gate (I64 (flQ x n d)) (flQ x n d)
def eH (x n d : Int) : Int := gate (I64 (flQ x n d) ∧ I64 (ceQ x n d)) (ceQ x n d)
def eE (x n d : Int) : Int := pick (I64 (flQ x n d) ∧ I64 (ceQ x n d)) 0 5
abbrev trip (a b c : Int) : Value := .tuple ⟨[num a, num b, num c]⟩
def sFxEnclose : FSpec := fun | [.int .i64 x, .int .i64 n, .int .i64 d] => some (Q31 x ∧ Q40 n ∧ 0 < d ∧ d ≤ 2147483648, trip (eL x n d) (eH x n d) (eE x n d)) | _ => none
def sFxValid : FSpec := fun | [.agg ⟨[.int .i64 a, .int .i64 b]⟩] => some (True, .bool (decide (FixV a b))) | _ => none
def sFxBoth : FSpec := fun | [.agg ⟨[.int .i64 a, .int .i64 b]⟩, .agg ⟨[.int .i64 c, .int .i64 d]⟩] => some (True, .bool (decide (FixV a b ∧ FixV c d))) | _ => none
def sFxFactor : FSpec := fun | [.int .i64 n] => some (True, .bool (decide (Q40 n))) | _ => none
def sFxZero : FSpec := fun | [.agg ⟨[.int .i64 a, .int .i64 b]⟩] => some (True, .bool (decide (a ≤ 0 ∧ 0 ≤ b))) | _ => none
/-- The ends of a quotient of intervals. -/
def qL (a b c d n : Int) : Int := min (min (flQ a n c) (flQ a n d)) (min (flQ b n c) (flQ b n d))
def qH (a b c d n : Int) : Int := max (max (ceQ a n c) (ceQ a n d)) (max (ceQ b n c) (ceQ b n d))
def okF (a b c d n : Int) : Prop := -1099511627776 ≤ qL a b c d n ∧ qH a b c d n ≤ 1099511627776
instance (a b c d n : Int) : Decidable (okF a b c d n) := by unfold okF; infer_instance
abbrev quoAns (a b c d n : Int) : Value := trip (gate (okF a b c d n) (qL a b c d n)) (gate (okF a b c d n) (qH a b c d n)) (pick (okF a b c d n) 0 5)
def ΓFe : List (FuncId × CSpec) := [(153, .v sWProduct), (154, .v sWFloor), (155, .v sWCeil)]
def ΓFb : List (FuncId × CSpec) := [(91, .v sFxValid)]
def ΓFq : List (FuncId × CSpec) := [(86, .v sFxBoth), (133, .v sFxFactor), (87, .v sFxZero), (134, .v sFxEnclose)]
def fiveF : FuncId → List (Nat × LoopBy) := fun _ => [(1, .times 5)]
end Go.Proofs.YtjdcicjhpegphaaGreat

/- Quotients of intervals, by the program: what they ask. -/
namespace Go.Proofs.YtjdcicjhpegphaaGreat
open Go Go.Abs Go.RowKit
set_option linter.unusedVariables false
set_option linter.unusedSimpArgs false
theorem vc_fxenclose (x n d : Int) (K : Value → Prop) : callsX Tryz.prog (ΓFe) (noAnn) 134 [num x, num n, num d] K = (
 (I64 x ∧ I64 n) ∧
 bcase (pick (F120 (x * n)) 0 5 != 0) (K (Value.tuple #[Value.int IntKind.i64 0, Value.int IntKind.i64 0, Value.int IntKind.i64 (pick (F120 (x * n)) 0 5)]))
 (I64 d ∧
 bcase (pick (WV (gate (F120 (x * n)) (hiO (x * n))) (gate (F120 (x * n)) (loO (x * n)))) (pick (d = 0) 16 (pick (I64 (quoI (val (gate (F120 (x * n)) (hiO (x * n))) (gate (F120 (x * n)) (loO (x * n)))) d false)) 0 5)) 1 != 0)
 (K (Value.tuple #[Value.int IntKind.i64 0, Value.int IntKind.i64 0, Value.int IntKind.i64 (pick (WV (gate (F120 (x * n)) (hiO (x * n))) (gate (F120 (x * n)) (loO (x * n)))) (pick (d = 0) 16 (pick (I64 (quoI (val (gate (F120 (x * n)) (hiO (x * n))) (gate (F120 (x * n)) (loO (x * n)))) d false)) 0 5)) 1)]))
 (I64 d ∧
 K
 (Value.tuple
 #[Value.int IntKind.i64 (gate (okQ (gate (F120 (x * n)) (hiO (x * n))) (gate (F120 (x * n)) (loO (x * n))) d false) (quoI (val (gate (F120 (x * n)) (hiO (x * n))) (gate (F120 (x * n)) (loO (x * n)))) d false)),
 Value.int IntKind.i64 (gate (okQ (gate (F120 (x * n)) (hiO (x * n))) (gate (F120 (x * n)) (loO (x * n))) d true) (quoI (val (gate (F120 (x * n)) (hiO (x * n))) (gate (F120 (x * n)) (loO (x * n)))) d true)),
 Value.int IntKind.i64 (pick (WV (gate (F120 (x * n)) (hiO (x * n))) (gate (F120 (x * n)) (loO (x * n)))) (pick (d = 0) 16 (pick (I64 (quoI (val (gate (F120 (x * n)) (hiO (x * n))) (gate (F120 (x * n)) (loO (x * n)))) d true)) 0 5)) 1)])))) := by kernel_rfl
theorem vc_fxvalid (a b : Int) (K : Value → Prop) : callsX Tryz.prog ([]) (noAnn) 91 [wid a b] K = (
 bcase (decide (a ≥ -2147483648)) (bcase (decide (a ≤ b)) (K (Value.bool (decide (b ≤ 2147483648)))) (K (Value.bool false))) (K (Value.bool false))) := by kernel_rfl
theorem vc_fxboth (a b c d : Int) (K : Value → Prop) : callsX Tryz.prog (ΓFb) (noAnn) 86 [wid a b, wid c d] K = (
 True ∧ bcase (decide (FixV a b)) (True ∧ K (Value.bool (decide (FixV c d)))) (K (Value.bool false))) := by kernel_rfl
theorem vc_fxfactor (n : Int) (K : Value → Prop) : callsX Tryz.prog ([]) (noAnn) 133 [num n] K = (
 bcase (decide (n ≥ -1099511627776)) (K (Value.bool (decide (n ≤ 1099511627776)))) (K (Value.bool false))) := by kernel_rfl
theorem vc_fxzero (a b : Int) (K : Value → Prop) : callsX Tryz.prog ([]) (noAnn) 87 [wid a b] K = (
 bcase (decide (a ≤ 0)) (K (Value.bool (decide (b ≥ 0)))) (K (Value.bool false))) := by kernel_rfl
theorem vc_fxquo (a b c d n : Int) (K : Value → Prop) : callsX Tryz.prog (ΓFq) (fiveF) 104 [wid a b, wid c d, num n] K = (
 True ∧
 bcase (!decide (FixV a b ∧ FixV c d)) (K (Value.tuple #[Value.int IntKind.i64 0, Value.int IntKind.i64 0, Value.int IntKind.i64 1]))
 (True ∧
 bcase (!decide (Q40 n)) (K (Value.tuple #[Value.int IntKind.i64 0, Value.int IntKind.i64 0, Value.int IntKind.i64 2]))
 (True ∧
 bcase (decide (c ≤ 0 ∧ 0 ≤ d)) (K (Value.tuple #[Value.int IntKind.i64 0, Value.int IntKind.i64 0, Value.int IntKind.i64 16]))
 ((Q31 a ∧ Q40 n ∧ 0 < c ∧ c ≤ 2147483648) ∧
 bcase (eE a n c != 0) (K (Value.tuple #[Value.int IntKind.i64 0, Value.int IntKind.i64 0, Value.int IntKind.i64 5]))
 ((Q31 a ∧ Q40 n ∧ 0 < d ∧ d ≤ 2147483648) ∧
 bcase (eE a n d != 0) (K (Value.tuple #[Value.int IntKind.i64 0, Value.int IntKind.i64 0, Value.int IntKind.i64 5]))
 ((Q31 b ∧ Q40 n ∧ 0 < c ∧ c ≤ 2147483648) ∧
 bcase (eE b n c != 0) (K (Value.tuple #[Value.int IntKind.i64 0, Value.int IntKind.i64 0, Value.int IntKind.i64 5]))
 ((Q31 b ∧ Q40 n ∧ 0 < d ∧ d ≤ 2147483648) ∧
 bcase (eE b n d != 0) (K (Value.tuple #[Value.int IntKind.i64 0, Value.int IntKind.i64 0, Value.int IntKind.i64 5]))
 (True ∧
 bcase
 (!decide
 (Q40
 (if eL b n d < if eL b n c < if eL a n d < if eL a n c < eL a n c then eL a n c else eL a n c then eL a n d else if eL a n c < eL a n c then eL a n c else eL a n c then eL b n c else if eL a n d < if eL a n c < eL a n c then eL a n c else eL a n c then eL a n d else if eL a n c < eL a n c then eL a n c else eL a n c then eL b n d
 else if eL b n c < if eL a n d < if eL a n c < eL a n c then eL a n c else eL a n c then eL a n d else if eL a n c < eL a n c then eL a n c else eL a n c then eL b n c else if eL a n d < if eL a n c < eL a n c then eL a n c else eL a n c then eL a n d else if eL a n c < eL a n c then eL a n c else eL a n c)))
 (K (Value.tuple #[Value.int IntKind.i64 0, Value.int IntKind.i64 0, Value.int IntKind.i64 5]))
 (True ∧
 bcase
 (!decide
 (Q40
 (if eH b n d > if eH b n c > if eH a n d > if eH a n c > eH a n c then eH a n c else eH a n c then eH a n d else if eH a n c > eH a n c then eH a n c else eH a n c then eH b n c else if eH a n d > if eH a n c > eH a n c then eH a n c else eH a n c then eH a n d else if eH a n c > eH a n c then eH a n c else eH a n c then eH b n d
 else if eH b n c > if eH a n d > if eH a n c > eH a n c then eH a n c else eH a n c then eH a n d else if eH a n c > eH a n c then eH a n c else eH a n c then eH b n c else if eH a n d > if eH a n c > eH a n c then eH a n c else eH a n c then eH a n d else if eH a n c > eH a n c then eH a n c else eH a n c)))
 (K (Value.tuple #[Value.int IntKind.i64 0, Value.int IntKind.i64 0, Value.int IntKind.i64 5]))
 (K
 (Value.tuple
 #[Value.int IntKind.i64
 (if eL b n d < if eL b n c < if eL a n d < if eL a n c < eL a n c then eL a n c else eL a n c then eL a n d else if eL a n c < eL a n c then eL a n c else eL a n c then eL b n c else if eL a n d < if eL a n c < eL a n c then eL a n c else eL a n c then eL a n d else if eL a n c < eL a n c then eL a n c else eL a n c then eL b n d
 else if eL b n c < if eL a n d < if eL a n c < eL a n c then eL a n c else eL a n c then eL a n d else if eL a n c < eL a n c then eL a n c else eL a n c then eL b n c else if eL a n d < if eL a n c < eL a n c then eL a n c else eL a n c then eL a n d else if eL a n c < eL a n c then eL a n c else eL a n c),
 Value.int IntKind.i64
 (if eH b n d > if eH b n c > if eH a n d > if eH a n c > eH a n c then eH a n c else eH a n c then eH a n d else if eH a n c > eH a n c then eH a n c else eH a n c then eH b n c else if eH a n d > if eH a n c > eH a n c then eH a n c else eH a n c then eH a n d else if eH a n c > eH a n c then eH a n c else eH a n c then eH b n d
 else if eH b n c > if eH a n d > if eH a n c > eH a n c then eH a n c else eH a n c then eH a n d else if eH a n c > eH a n c then eH a n c else eH a n c then eH b n c else if eH a n d > if eH a n c > eH a n c then eH a n c else eH a n c then eH a n d else if eH a n c > eH a n c then eH a n c else eH a n c),
 Value.int IntKind.i64 0]))))))))))) := by kernel_rfl
end Go.Proofs.YtjdcicjhpegphaaGreat

/- Quotients of intervals, by the program: contracts. -/
namespace Go.Proofs.YtjdcicjhpegphaaGreat
open Go Go.Abs Go.RowKit
set_option linter.unusedVariables false
set_option linter.unusedSimpArgs false
theorem xn_bound {x n : Int} (hx : Q31 x) (hn : Q40 n) : -2361183241434822606848 ≤ x * n ∧ x * n ≤ 2361183241434822606848 := by
  obtain ⟨x0, x1⟩ := hx
  obtain ⟨n0, n1⟩ := hn
  have h : (x * n).natAbs ≤ 2147483648 * 1099511627776 := by
    rw [Int.natAbs_mul]
    exact Nat.mul_le_mul (by omega) (by omega)
  omega
theorem fl_ce {x n d : Int} (hd : 0 < d) : flQ x n d ≤ ceQ x n d := by
  unfold flQ ceQ
  generalize x * n = p
  have h1 := Int.mul_ediv_self_le (x := p) (k := d) (by omega)
  have h2 := Int.mul_ediv_self_le (x := -p) (k := d) (by omega)
  have h3 : d * (p / d) ≤ d * (-(-p / d)) := by rw [Int.mul_neg]; omega
  exact Int.le_of_mul_le_mul_left h3 hd
variable {Φ : World → Prop} (hst : ∀ w w', Φ w → Below w.heap.size w w' → Φ w')
include hst
theorem s_Fe : Sound Tryz.prog Φ ΓFe :=
  Sound.cons (by kernel_rfl) (fun args p v h hp => by unfold sWProduct at h; split at h <;> cases h; exact c_wproduct hst _ _ hp.1 hp.2)
  (Sound.cons (by kernel_rfl) (fun args p v h hp => by unfold sWFloor at h; split at h <;> cases h; exact c_wfloor hst _ _ _ hp)
  (Sound.cons (by kernel_rfl) (fun args p v h hp => by unfold sWCeil at h; split at h <;> cases h; exact c_wceil hst _ _ _ hp) Sound.nil))
omit hst in
theorem pick_t {c : Prop} [Decidable c] {x y : Int} (h : c) : pick c x y = x := if_pos h
omit hst in
theorem pick_f {c : Prop} [Decidable c] {x y : Int} (h : ¬ c) : pick c x y = y := if_neg h
omit hst in
theorem gate_t {c : Prop} [Decidable c] {x : Int} (h : c) : gate c x = x := if_pos h
omit hst in
theorem gate_f {c : Prop} [Decidable c] {x : Int} (h : ¬ c) : gate c x = 0 := if_neg h
theorem c_fxenclose {x n d : Int} (hx : Q31 x) (hn : Q40 n) (hd : 0 < d) (hd1 : d ≤ 2147483648) : Ans Tryz.prog Φ 134 [num x, num n, num d] (trip (eL x n d) (eH x n d) (eE x n d)) := by
  refine fn_by hst (s_Fe hst) (vc_fxenclose x n d _) ?_
  have b := xn_bound hx hn
  have hF : F120 (x * n) := by unfold F120; omega
  have hW : WV (hiO (x * n)) (loO (x * n)) := by unfold WV hiO loO; omega
  have hv : val (hiO (x * n)) (loO (x * n)) = x * n := by unfold val hiO loO; omega
  have hd0 : ¬ d = 0 := by omega
  have e1 : quoI (x * n) d false = flQ x n d := by unfold quoI flQ; rw [if_neg (by decide), Int.fdiv_eq_ediv_of_nonneg _ (by omega)]
  have e2 : quoI (x * n) d true = ceQ x n d := by unfold quoI ceQ; rw [if_pos rfl, Int.fdiv_eq_ediv_of_nonneg _ (by omega)]
  rw [gate_t hF, gate_t hF, pick_t hF, hv, e1, e2, pick_t hW, pick_t hW, pick_f hd0, pick_f hd0]
  unfold Q31 at hx
  unfold Q40 at hn
  refine ⟨⟨by unfold I64; omega, by unfold I64; omega⟩, bcase_iff.mpr ⟨fun q => absurd q (by decide), fun _ => ⟨by unfold I64; omega, ?_⟩⟩⟩
  have ok1 : okQ (hiO (x * n)) (loO (x * n)) d false ↔ I64 (flQ x n d) := by unfold okQ; rw [hv, e1]; exact ⟨fun h => h.2.2, fun h => ⟨hW, hd0, h⟩⟩
  have ok2 : okQ (hiO (x * n)) (loO (x * n)) d true ↔ I64 (ceQ x n d) := by unfold okQ; rw [hv, e2]; exact ⟨fun h => h.2.2, fun h => ⟨hW, hd0, h⟩⟩
  unfold eL eH eE
  by_cases h1 : I64 (flQ x n d)
  · rw [pick_t h1, gate_t (ok1.mpr h1), gate_t h1]
    refine bcase_iff.mpr ⟨fun q => absurd q (by decide), fun _ => ⟨by unfold I64; omega, ?_⟩⟩
    by_cases h2 : I64 (ceQ x n d)
    · rw [pick_t h2, gate_t (ok2.mpr h2), gate_t ⟨h1, h2⟩, pick_t ⟨h1, h2⟩]
    · rw [pick_f h2, gate_f (fun h => h2 (ok2.mp h)), gate_f (fun h => h2 h.2), pick_f (fun h => h2 h.2)]
  · rw [pick_f h1, gate_f h1, gate_f (fun h => h1 h.1), pick_f (fun h => h1 h.1)]
    exact bcase_iff.mpr ⟨fun _ => rfl, fun q => absurd q (by decide)⟩
theorem c_fxvalid (a b : Int) : Ans Tryz.prog Φ 91 [wid a b] (.bool (decide (FixV a b))) := by
  refine fn_by hst Sound.nil (vc_fxvalid a b _) ?_
  unfold FixV
  refine bcase_iff.mpr ⟨fun p => bcase_iff.mpr ⟨fun q => ?_, fun q => ?_⟩, fun p => ?_⟩
  · have p := of_decide_eq_true p
    have q := of_decide_eq_true q
    exact congrArg Value.bool (decide_eq_decide.mpr ⟨fun h => ⟨p, q, h⟩, fun h => h.2.2⟩)
  · have q := of_decide_eq_false q
    exact congrArg Value.bool (decide_eq_false (fun h => q h.2.1)).symm
  · have p := of_decide_eq_false p
    exact congrArg Value.bool (decide_eq_false (fun h => p h.1)).symm
theorem c_fxboth (a b c d : Int) : Ans Tryz.prog Φ 86 [wid a b, wid c d] (.bool (decide (FixV a b ∧ FixV c d))) := by
  refine fn_by hst (Sound.cons (by kernel_rfl) (fun args p v h hp => by unfold sFxValid at h; split at h <;> cases h; exact c_fxvalid hst _ _) Sound.nil) (vc_fxboth a b c d _) ?_
  refine ⟨trivial, bcase_iff.mpr ⟨fun p => ⟨trivial, ?_⟩, fun p => ?_⟩⟩
  · have p := of_decide_eq_true p
    exact congrArg Value.bool (decide_eq_decide.mpr ⟨fun h => ⟨p, h⟩, fun h => h.2⟩)
  · have p := of_decide_eq_false p
    exact congrArg Value.bool (decide_eq_false (fun h => p h.1)).symm
theorem c_fxfactor (n : Int) : Ans Tryz.prog Φ 133 [num n] (.bool (decide (Q40 n))) := by
  refine fn_by hst Sound.nil (vc_fxfactor n _) ?_
  unfold Q40
  refine bcase_iff.mpr ⟨fun p => ?_, fun p => ?_⟩
  · have p := of_decide_eq_true p
    exact congrArg Value.bool (decide_eq_decide.mpr ⟨fun h => ⟨p, h⟩, fun h => h.2⟩)
  · have p := of_decide_eq_false p
    exact congrArg Value.bool (decide_eq_false (fun h => p h.1)).symm
theorem c_fxzero (a b : Int) : Ans Tryz.prog Φ 87 [wid a b] (.bool (decide (a ≤ 0 ∧ 0 ≤ b))) := by
  refine fn_by hst Sound.nil (vc_fxzero a b _) ?_
  refine bcase_iff.mpr ⟨fun p => ?_, fun p => ?_⟩
  · have p := of_decide_eq_true p
    exact congrArg Value.bool (decide_eq_decide.mpr ⟨fun h => ⟨p, h⟩, fun h => h.2⟩)
  · have p := of_decide_eq_false p
    exact congrArg Value.bool (decide_eq_false (fun h => p h.1)).symm
theorem s_Fq : Sound Tryz.prog Φ ΓFq :=
  Sound.cons (by kernel_rfl) (fun args p v h hp => by unfold sFxBoth at h; split at h <;> cases h; exact c_fxboth hst _ _ _ _)
  (Sound.cons (by kernel_rfl) (fun args p v h hp => by unfold sFxFactor at h; split at h <;> cases h; exact c_fxfactor hst _)
  (Sound.cons (by kernel_rfl) (fun args p v h hp => by unfold sFxZero at h; split at h <;> cases h; exact c_fxzero hst _ _)
  (Sound.cons (by kernel_rfl) (fun args p v h hp => by unfold sFxEnclose at h; split at h <;> cases h; exact c_fxenclose hst hp.1 hp.2.1 hp.2.2.1 hp.2.2.2) Sound.nil)))
/-- Both ends fit. -/
def both (x n d : Int) : Prop := I64 (flQ x n d) ∧ I64 (ceQ x n d)
omit hst in
theorem e_yes {x n d : Int} (h : both x n d) : eE x n d = 0 ∧ eL x n d = flQ x n d ∧ eH x n d = ceQ x n d := ⟨if_pos h, if_pos h.1, if_pos h⟩
omit hst in
theorem e_no {x n d : Int} (h : ¬ both x n d) : eE x n d = 5 := if_neg h
omit hst in
theorem both_of {a b c d n : Int} (hc : 0 < c) (hcd : c ≤ d) (h : okF a b c d n) : both a n c ∧ both a n d ∧ both b n c ∧ both b n d := by
  have i1 := fl_ce (x := a) (n := n) hc
  have i2 := fl_ce (x := a) (n := n) (d := d) (by omega)
  have i3 := fl_ce (x := b) (n := n) hc
  have i4 := fl_ce (x := b) (n := n) (d := d) (by omega)
  unfold okF qL qH at h
  unfold both I64
  omega
omit hst in
theorem no_ok {a b c d n : Int} (h : ¬ okF a b c d n) : trip 0 0 5 = quoAns a b c d n := by
  unfold quoAns
  rw [gate_f h, gate_f h, pick_f h]
theorem c_fxquo {a b c d n : Int} (h1 : FixV a b) (h2 : FixV c d) (hc : 0 < c) (hn : Q40 n) : Ans Tryz.prog Φ 104 [wid a b, wid c d, num n] (quoAns a b c d n) := by
  refine fn_by hst (s_Fq hst) (vc_fxquo a b c d n _) ?_
  have hb : (!decide (FixV a b ∧ FixV c d)) = false := by rw [decide_eq_true ⟨h1, h2⟩]; rfl
  have hn' : (!decide (Q40 n)) = false := by rw [decide_eq_true hn]; rfl
  have hz : decide (c ≤ 0 ∧ 0 ≤ d) = false := decide_eq_false (by omega)
  have k1 := h1
  have k2 := h2
  unfold FixV at k1 k2
  have qa : Q31 a := by unfold Q31; omega
  have qb : Q31 b := by unfold Q31; omega
  have ok := both_of (a := a) (b := b) (n := n) hc k2.2.1
  have ne5 : ((5 : Int) != 0) = true := by decide
  have ne0 : ((0 : Int) != 0) = false := by decide
  rw [hb, hn', hz, bcase_false, bcase_false, bcase_false]
  refine ⟨trivial, trivial, trivial, ⟨qa, hn, hc, by omega⟩, ?_⟩
  by_cases b1 : both a n c
  · obtain ⟨e1, l1, u1⟩ := e_yes b1
    rw [e1, ne0, bcase_false]
    refine ⟨⟨qa, hn, by omega, k2.2.2⟩, ?_⟩
    by_cases b2 : both a n d
    · obtain ⟨e2, l2, u2⟩ := e_yes b2
      rw [e2, ne0, bcase_false]
      refine ⟨⟨qb, hn, hc, by omega⟩, ?_⟩
      by_cases b3 : both b n c
      · obtain ⟨e3, l3, u3⟩ := e_yes b3
        rw [e3, ne0, bcase_false]
        refine ⟨⟨qb, hn, by omega, k2.2.2⟩, ?_⟩
        by_cases b4 : both b n d
        · obtain ⟨e4, l4, u4⟩ := e_yes b4
          rw [e4, ne0, bcase_false]
          simp only [min_if, max_if, l1, l2, l3, l4, u1, u2, u3, u4]
          have i1 := fl_ce (x := a) (n := n) hc
          have i2 := fl_ce (x := a) (n := n) (d := d) (by omega)
          have i3 := fl_ce (x := b) (n := n) hc
          have i4 := fl_ce (x := b) (n := n) (d := d) (by omega)
          have hL : min (min (min (min (flQ a n c) (flQ a n c)) (flQ a n d)) (flQ b n c)) (flQ b n d) = qL a b c d n := by unfold qL; omega
          have hH : max (max (max (min (ceQ a n c) (ceQ a n c)) (ceQ a n d)) (ceQ b n c)) (ceQ b n d) = qH a b c d n := by unfold qH; omega
          have hLH : qL a b c d n ≤ qH a b c d n := by unfold qL qH; omega
          rw [hL, hH]
          refine ⟨trivial, bcase_iff.mpr ⟨fun q => ?_, fun q => ⟨trivial, bcase_iff.mpr ⟨fun r => ?_, fun r => ?_⟩⟩⟩⟩
          · refine no_ok (fun o => ?_)
            have q : ¬ Q40 (qL a b c d n) := by simpa using q
            apply q
            unfold okF at o
            unfold Q40
            omega
          · refine no_ok (fun o => ?_)
            have r : ¬ Q40 (qH a b c d n) := by simpa using r
            apply r
            unfold okF at o
            unfold Q40
            omega
          · have q : Q40 (qL a b c d n) := by simpa using q
            have r : Q40 (qH a b c d n) := by simpa using r
            have o : okF a b c d n := ⟨q.1, r.2⟩
            unfold quoAns
            rw [gate_t o, gate_t o, pick_t o]
        · rw [e_no b4, ne5, bcase_true]
          exact no_ok fun o => b4 (ok o).2.2.2
      · rw [e_no b3, ne5, bcase_true]
        exact no_ok fun o => b3 (ok o).2.2.1
    · rw [e_no b2, ne5, bcase_true]
      exact no_ok fun o => b2 (ok o).2.1
  · rw [e_no b1, ne5, bcase_true]
    exact no_ok fun o => b1 (ok o).1
end Go.Proofs.YtjdcicjhpegphaaGreat

/- Sums and products of intervals: what the functions answer. -/
namespace Go.Proofs.YtjdcicjhpegphaaGreat
open Go Go.Abs Go.RowKit
set_option linter.unusedVariables false
/-- A number of an interval within one. -/
def N30 (x : Int) : Prop := -1073741824 ≤ x ∧ x ≤ 1073741824
/-- An interval within one. -/
def FixO (a b : Int) : Prop := -1073741824 ≤ a ∧ a ≤ b ∧ b ≤ 1073741824
theorem FixO.v {a b : Int} (h : FixO a b) : FixV a b := by unfold FixO at h; unfold FixV; omega
/-- The ends of a product. -/
def mnP (a b c d : Int) : Int := min (min (min (a * c) (a * d)) (b * c)) (b * d)
def mxP (a b c d : Int) : Int := max (max (max (a * c) (a * d)) (b * c)) (b * d)
def muL (a b c d : Int) : Int := mnP a b c d / 1073741824
def muH (a b c d : Int) : Int := -(-mxP a b c d / 1073741824)
def Q62 (n : Int) : Prop := -4611686018427387904 ≤ n ∧ n ≤ 4611686018427387904
def OneD (d : Int) : Prop := d = 1073741824
def sFl : FSpec := fun | [.int .i64 n, .int .i64 d] => some (Q62 n ∧ OneD d, num (n / d)) | _ => none
def sCe : FSpec := fun | [.int .i64 n, .int .i64 d] => some (Q62 n ∧ OneD d, num (-(-n / d))) | _ => none
def sFit : FSpec := fun | [.int .i64 a, .int .i64 b] => some (FixV a b, pair (wid a b) (num 0)) | _ => none
abbrev fxOk (a b : Int) : Value := pair (wid a b) (num 0)
def sMulO (ml mh : Int → Int → Int → Int → Int) : FSpec := fun | [.agg ⟨[.int .i64 a, .int .i64 b]⟩, .agg ⟨[.int .i64 c, .int .i64 d]⟩] => some (FixO a b ∧ FixO c d, fxOk (ml a b c d) (mh a b c d)) | _ => none
def sAddO : FSpec := fun | [.agg ⟨[.int .i64 a, .int .i64 b]⟩, .agg ⟨[.int .i64 c, .int .i64 d]⟩] => some (FixO a b ∧ FixO c d, fxOk (a + c) (b + d)) | _ => none
def sSubO : FSpec := fun | [.agg ⟨[.int .i64 a, .int .i64 b]⟩, .agg ⟨[.int .i64 c, .int .i64 d]⟩] => some (FixO a b ∧ FixO c d, fxOk (a - d) (b - c)) | _ => none
def sNegO : FSpec := fun | [.agg ⟨[.int .i64 a, .int .i64 b]⟩] => some (FixV a b, fxOk (-b) (-a)) | _ => none
def ΓFm : List (FuncId × CSpec) := [(86, .v sFxBoth), (91, .v sFxValid), (88, .v sFl), (89, .v sCe), (90, .v sFit)]
def ΓFf : List (FuncId × CSpec) := [(88, .v sFl)]
end Go.Proofs.YtjdcicjhpegphaaGreat

/- Sums and products of intervals: what the functions ask. -/
namespace Go.Proofs.YtjdcicjhpegphaaGreat
open Go Go.Abs Go.RowKit
set_option linter.unusedVariables false
set_option linter.unusedSimpArgs false
theorem vc_fxfloor (n d : Int) (K : Value → Prop) : callsX Tryz.prog ([]) (noAnn) 88 [num n, num d] K = (
 bcase (d == 0) False (bcase (d == 0) False (bcase (n.tmod d != 0) (bcase (!decide (n < 0) == decide (d < 0)) (K (Value.int IntKind.i64 (IntKind.i64.wrap (IntKind.i64.wrap (n.tdiv d) - 1)))) (K (Value.int IntKind.i64 (IntKind.i64.wrap (n.tdiv d))))) (K (Value.int IntKind.i64 (IntKind.i64.wrap (n.tdiv d))))))) := by kernel_rfl
theorem vc_fxceil (n d : Int) (K : Value → Prop) : callsX Tryz.prog (ΓFf) (noAnn) 89 [num n, num d] K = (
 (Q62 (IntKind.i64.wrap (0 - n)) ∧ OneD d) ∧ K (Value.int IntKind.i64 (IntKind.i64.wrap (0 - IntKind.i64.wrap (0 - n) / d)))) := by kernel_rfl
theorem vc_fxfit (a b : Int) (K : Value → Prop) : callsX Tryz.prog ([(91, .v sFxValid)]) (noAnn) 90 [num a, num b] K = (
 True ∧ bcase (!decide (FixV a b)) (K (Value.tuple #[Value.agg #[Value.int IntKind.i64 0, Value.int IntKind.i64 0], Value.int IntKind.i64 5])) (K (Value.tuple #[Value.agg #[Value.int IntKind.i64 a, Value.int IntKind.i64 b], Value.int IntKind.i64 0]))) := by kernel_rfl
theorem vc_fxmul (a b c d : Int) (K : Value → Prop) : callsX Tryz.prog (ΓFm) (noAnn) 84 [wid a b, wid c d] K = (
 True ∧
 bcase (!decide (FixV a b ∧ FixV c d)) (K (Value.tuple #[Value.agg #[Value.int IntKind.i64 0, Value.int IntKind.i64 0], Value.int IntKind.i64 1]))
 ((Q62
 (if IntKind.i64.wrap (b * d) < if IntKind.i64.wrap (b * c) < if IntKind.i64.wrap (a * d) < IntKind.i64.wrap (a * c) then IntKind.i64.wrap (a * d) else IntKind.i64.wrap (a * c) then IntKind.i64.wrap (b * c) else if IntKind.i64.wrap (a * d) < IntKind.i64.wrap (a * c) then IntKind.i64.wrap (a * d) else IntKind.i64.wrap (a * c) then IntKind.i64.wrap (b * d)
 else if IntKind.i64.wrap (b * c) < if IntKind.i64.wrap (a * d) < IntKind.i64.wrap (a * c) then IntKind.i64.wrap (a * d) else IntKind.i64.wrap (a * c) then IntKind.i64.wrap (b * c) else if IntKind.i64.wrap (a * d) < IntKind.i64.wrap (a * c) then IntKind.i64.wrap (a * d) else IntKind.i64.wrap (a * c)) ∧
 OneD 1073741824) ∧
 (Q62
 (if IntKind.i64.wrap (b * d) > if IntKind.i64.wrap (b * c) > if IntKind.i64.wrap (a * d) > IntKind.i64.wrap (a * c) then IntKind.i64.wrap (a * d) else IntKind.i64.wrap (a * c) then IntKind.i64.wrap (b * c) else if IntKind.i64.wrap (a * d) > IntKind.i64.wrap (a * c) then IntKind.i64.wrap (a * d) else IntKind.i64.wrap (a * c) then IntKind.i64.wrap (b * d)
 else if IntKind.i64.wrap (b * c) > if IntKind.i64.wrap (a * d) > IntKind.i64.wrap (a * c) then IntKind.i64.wrap (a * d) else IntKind.i64.wrap (a * c) then IntKind.i64.wrap (b * c) else if IntKind.i64.wrap (a * d) > IntKind.i64.wrap (a * c) then IntKind.i64.wrap (a * d) else IntKind.i64.wrap (a * c)) ∧
 OneD 1073741824) ∧
 FixV
 ((if IntKind.i64.wrap (b * d) < if IntKind.i64.wrap (b * c) < if IntKind.i64.wrap (a * d) < IntKind.i64.wrap (a * c) then IntKind.i64.wrap (a * d) else IntKind.i64.wrap (a * c) then IntKind.i64.wrap (b * c) else if IntKind.i64.wrap (a * d) < IntKind.i64.wrap (a * c) then IntKind.i64.wrap (a * d) else IntKind.i64.wrap (a * c) then IntKind.i64.wrap (b * d)
 else if IntKind.i64.wrap (b * c) < if IntKind.i64.wrap (a * d) < IntKind.i64.wrap (a * c) then IntKind.i64.wrap (a * d) else IntKind.i64.wrap (a * c) then IntKind.i64.wrap (b * c) else if IntKind.i64.wrap (a * d) < IntKind.i64.wrap (a * c) then IntKind.i64.wrap (a * d) else IntKind.i64.wrap (a * c)) /
 1073741824)
 (-((-if IntKind.i64.wrap (b * d) > if IntKind.i64.wrap (b * c) > if IntKind.i64.wrap (a * d) > IntKind.i64.wrap (a * c) then IntKind.i64.wrap (a * d) else IntKind.i64.wrap (a * c) then IntKind.i64.wrap (b * c) else if IntKind.i64.wrap (a * d) > IntKind.i64.wrap (a * c) then IntKind.i64.wrap (a * d) else IntKind.i64.wrap (a * c) then IntKind.i64.wrap (b * d)
 else if IntKind.i64.wrap (b * c) > if IntKind.i64.wrap (a * d) > IntKind.i64.wrap (a * c) then IntKind.i64.wrap (a * d) else IntKind.i64.wrap (a * c) then IntKind.i64.wrap (b * c) else if IntKind.i64.wrap (a * d) > IntKind.i64.wrap (a * c) then IntKind.i64.wrap (a * d) else IntKind.i64.wrap (a * c)) /
 1073741824)) ∧
 K
 (Value.tuple
 #[Value.agg
 #[Value.int IntKind.i64
 ((if IntKind.i64.wrap (b * d) < if IntKind.i64.wrap (b * c) < if IntKind.i64.wrap (a * d) < IntKind.i64.wrap (a * c) then IntKind.i64.wrap (a * d) else IntKind.i64.wrap (a * c) then IntKind.i64.wrap (b * c) else if IntKind.i64.wrap (a * d) < IntKind.i64.wrap (a * c) then IntKind.i64.wrap (a * d) else IntKind.i64.wrap (a * c) then IntKind.i64.wrap (b * d)
 else if IntKind.i64.wrap (b * c) < if IntKind.i64.wrap (a * d) < IntKind.i64.wrap (a * c) then IntKind.i64.wrap (a * d) else IntKind.i64.wrap (a * c) then IntKind.i64.wrap (b * c) else if IntKind.i64.wrap (a * d) < IntKind.i64.wrap (a * c) then IntKind.i64.wrap (a * d) else IntKind.i64.wrap (a * c)) /
 1073741824),
 Value.int IntKind.i64
 (-((-if IntKind.i64.wrap (b * d) > if IntKind.i64.wrap (b * c) > if IntKind.i64.wrap (a * d) > IntKind.i64.wrap (a * c) then IntKind.i64.wrap (a * d) else IntKind.i64.wrap (a * c) then IntKind.i64.wrap (b * c) else if IntKind.i64.wrap (a * d) > IntKind.i64.wrap (a * c) then IntKind.i64.wrap (a * d) else IntKind.i64.wrap (a * c) then IntKind.i64.wrap (b * d)
 else if IntKind.i64.wrap (b * c) > if IntKind.i64.wrap (a * d) > IntKind.i64.wrap (a * c) then IntKind.i64.wrap (a * d) else IntKind.i64.wrap (a * c) then IntKind.i64.wrap (b * c) else if IntKind.i64.wrap (a * d) > IntKind.i64.wrap (a * c) then IntKind.i64.wrap (a * d) else IntKind.i64.wrap (a * c)) /
 1073741824))],
 Value.int IntKind.i64 0]))) := by kernel_rfl
theorem vc_fxadd (a b c d : Int) (K : Value → Prop) : callsX Tryz.prog (ΓFm) (noAnn) 127 [wid a b, wid c d] K = (
 True ∧ bcase (!decide (FixV a b ∧ FixV c d)) (K (Value.tuple #[Value.agg #[Value.int IntKind.i64 0, Value.int IntKind.i64 0], Value.int IntKind.i64 1])) (FixV (IntKind.i64.wrap (a + c)) (IntKind.i64.wrap (b + d)) ∧ K (Value.tuple #[Value.agg #[Value.int IntKind.i64 (IntKind.i64.wrap (a + c)), Value.int IntKind.i64 (IntKind.i64.wrap (b + d))], Value.int IntKind.i64 0]))) := by kernel_rfl
theorem vc_fxsub (a b c d : Int) (K : Value → Prop) : callsX Tryz.prog (ΓFm) (noAnn) 121 [wid a b, wid c d] K = (
 True ∧ bcase (!decide (FixV a b ∧ FixV c d)) (K (Value.tuple #[Value.agg #[Value.int IntKind.i64 0, Value.int IntKind.i64 0], Value.int IntKind.i64 1])) (FixV (IntKind.i64.wrap (a - d)) (IntKind.i64.wrap (b - c)) ∧ K (Value.tuple #[Value.agg #[Value.int IntKind.i64 (IntKind.i64.wrap (a - d)), Value.int IntKind.i64 (IntKind.i64.wrap (b - c))], Value.int IntKind.i64 0]))) := by kernel_rfl
theorem vc_fxneg (a b : Int) (K : Value → Prop) : callsX Tryz.prog (ΓFm) (noAnn) 146 [wid a b] K = (
 True ∧ bcase (!decide (FixV a b)) (K (Value.tuple #[Value.agg #[Value.int IntKind.i64 0, Value.int IntKind.i64 0], Value.int IntKind.i64 1])) (K (Value.tuple #[Value.agg #[Value.int IntKind.i64 (IntKind.i64.wrap (0 - b)), Value.int IntKind.i64 (IntKind.i64.wrap (0 - a))], Value.int IntKind.i64 0]))) := by kernel_rfl
end Go.Proofs.YtjdcicjhpegphaaGreat

/- Sums and products of intervals: contracts. -/
namespace Go.Proofs.YtjdcicjhpegphaaGreat
open Go Go.Abs Go.RowKit
set_option linter.unusedVariables false
set_option linter.unusedSimpArgs false
theorem mul_30 {x y : Int} (hx : N30 x) (hy : N30 y) : -1152921504606846976 ≤ x * y ∧ x * y ≤ 1152921504606846976 := by
  obtain ⟨x0, x1⟩ := hx
  obtain ⟨y0, y1⟩ := hy
  have h : (x * y).natAbs ≤ 1073741824 * 1073741824 := by
    rw [Int.natAbs_mul]
    exact Nat.mul_le_mul (by omega) (by omega)
  omega
theorem mn_mx {a b c d : Int} (h : FixO a b) (k : FixO c d) : (-1152921504606846976 ≤ mnP a b c d ∧ mnP a b c d ≤ mxP a b c d ∧ mxP a b c d ≤ 1152921504606846976) ∧ (∀ x, x = a * c ∨ x = a * d ∨ x = b * c ∨ x = b * d → mnP a b c d ≤ x ∧ x ≤ mxP a b c d) := by
  unfold FixO at h k
  have h1 := mul_30 (x := a) (y := c) (by unfold N30; omega) (by unfold N30; omega)
  have h2 := mul_30 (x := a) (y := d) (by unfold N30; omega) (by unfold N30; omega)
  have h3 := mul_30 (x := b) (y := c) (by unfold N30; omega) (by unfold N30; omega)
  have h4 := mul_30 (x := b) (y := d) (by unfold N30; omega) (by unfold N30; omega)
  unfold mnP mxP
  generalize a * c = p at *
  generalize a * d = q at *
  generalize b * c = r at *
  generalize b * d = s at *
  refine ⟨?_, fun x hx => ?_⟩ <;> omega
theorem mu_ok {a b c d : Int} (h : FixO a b) (k : FixO c d) : FixO (muL a b c d) (muH a b c d) := by
  have h := (mn_mx h k).1
  unfold FixO muL muH
  omega
variable {Φ : World → Prop} (hst : ∀ w w', Φ w → Below w.heap.size w w' → Φ w')
include hst
theorem c_fxfloor {n d : Int} (h : Q62 n ∧ OneD d) : Ans Tryz.prog Φ 88 [num n, num d] (num (n / d)) := by
  obtain ⟨h, k⟩ := h
  unfold OneD at k
  subst k
  refine fn_by hst Sound.nil (vc_fxfloor n 1073741824 _) ?_
  unfold Q62 at h
  have e1 := Int.mul_tdiv_add_tmod n 1073741824
  have e2 : n.tmod 1073741824 = n % 1073741824 - (if 0 ≤ n ∨ (1073741824 : Int) ∣ n then 0 else 1073741824) := by rw [Int.tmod_eq_emod]; split <;> rfl
  refine bcase_iff.mpr ⟨fun q => absurd q (by decide), fun _ => bcase_iff.mpr ⟨fun q => absurd q (by decide), fun _ => ?_⟩⟩
  have hd : decide ((1073741824 : Int) < 0) = false := rfl
  rw [hd]
  refine bcase_iff.mpr ⟨fun q => bcase_iff.mpr ⟨fun r => ?_, fun r => ?_⟩, fun q => ?_⟩
  · have q : n.tmod 1073741824 ≠ 0 := by simpa using q
    have r : n < 0 := by simpa using r
    rw [if_neg (by omega)] at e2
    rw [wrap_in (n := n.tdiv 1073741824) (by omega), wrap_in (by omega)]
    exact congrArg (Value.int .i64) (by omega)
  · have q : n.tmod 1073741824 ≠ 0 := by simpa using q
    have r : ¬ n < 0 := by simpa using r
    rw [if_pos (by omega)] at e2
    rw [wrap_in (n := n.tdiv 1073741824) (by omega)]
    exact congrArg (Value.int .i64) (by omega)
  · have q : n.tmod 1073741824 = 0 := by simpa using q
    rw [wrap_in (n := n.tdiv 1073741824) (by omega)]
    exact congrArg (Value.int .i64) (by omega)
theorem s_Ff : Sound Tryz.prog Φ ΓFf := Sound.cons (by kernel_rfl) (fun args p v h hp => by unfold sFl at h; split at h <;> cases h; exact c_fxfloor hst hp) Sound.nil
theorem c_fxceil {n d : Int} (h : Q62 n ∧ OneD d) : Ans Tryz.prog Φ 89 [num n, num d] (num (-(-n / d))) := by
  refine fn_by hst (s_Ff hst) (vc_fxceil n d _) ?_
  obtain ⟨h, k⟩ := h
  unfold OneD at k
  subst k
  unfold Q62 at h
  rw [wrap_in (n := 0 - n) (by omega), wrap_in (by omega)]
  exact ⟨⟨by unfold Q62; omega, rfl⟩, congrArg (Value.int .i64) (by omega)⟩
theorem c_fxfit {a b : Int} (h : FixV a b) : Ans Tryz.prog Φ 90 [num a, num b] (pair (wid a b) (num 0)) := by
  refine fn_by hst (Sound.cons (by kernel_rfl) (fun args p v hh hp => by unfold sFxValid at hh; split at hh <;> cases hh; exact c_fxvalid hst _ _) Sound.nil) (vc_fxfit a b _) ?_
  refine ⟨trivial, bcase_iff.mpr ⟨fun q => ?_, fun q => rfl⟩⟩
  rw [decide_eq_true h] at q
  cases q
theorem s_Fm : Sound Tryz.prog Φ ΓFm :=
  Sound.cons (by kernel_rfl) (fun args p v h hp => by unfold sFxBoth at h; split at h <;> cases h; exact c_fxboth hst _ _ _ _)
  (Sound.cons (by kernel_rfl) (fun args p v h hp => by unfold sFxValid at h; split at h <;> cases h; exact c_fxvalid hst _ _)
  (Sound.cons (by kernel_rfl) (fun args p v h hp => by unfold sFl at h; split at h <;> cases h; exact c_fxfloor hst hp)
  (Sound.cons (by kernel_rfl) (fun args p v h hp => by unfold sCe at h; split at h <;> cases h; exact c_fxceil hst hp)
  (Sound.cons (by kernel_rfl) (fun args p v h hp => by unfold sFit at h; split at h <;> cases h; exact c_fxfit hst hp) Sound.nil))))
omit hst in
theorem min_lt (x y : Int) : (if y < x then y else x) = min x y := by rw [Int.min_def]; split <;> split <;> omega
omit hst in
theorem max_gt (x y : Int) : (if y > x then y else x) = max x y := by rw [Int.max_def]; split <;> split <;> omega
theorem c_fxmul {a b c d : Int} (h : FixO a b ∧ FixO c d) : Ans Tryz.prog Φ 84 [wid a b, wid c d] (fxOk (muL a b c d) (muH a b c d)) := by
  refine fn_by hst (s_Fm hst) (vc_fxmul a b c d _) ?_
  have ho := mu_ok h.1 h.2
  have hm := (mn_mx h.1 h.2).1
  have hv := h.1.v
  have kv := h.2.v
  have h1 := h.1
  have h2 := h.2
  unfold FixO at h1 h2
  rw [wrap_in (n := a * c) (by have := mul_30 (x := a) (y := c) (by unfold N30; omega) (by unfold N30; omega); omega), wrap_in (n := a * d) (by have := mul_30 (x := a) (y := d) (by unfold N30; omega) (by unfold N30; omega); omega), wrap_in (n := b * c) (by have := mul_30 (x := b) (y := c) (by unfold N30; omega) (by unfold N30; omega); omega), wrap_in (n := b * d) (by have := mul_30 (x := b) (y := d) (by unfold N30; omega) (by unfold N30; omega); omega)]
  simp only [min_lt, max_gt]
  refine ⟨trivial, bcase_iff.mpr ⟨fun q => ?_, fun q => ⟨⟨?_, rfl⟩, ⟨?_, rfl⟩, ?_, rfl⟩⟩⟩
  · rw [decide_eq_true (And.intro hv kv)] at q
    cases q
  · show Q62 (mnP a b c d)
    unfold Q62; omega
  · show Q62 (mxP a b c d)
    unfold Q62; omega
  · exact ho.v
theorem c_fxadd {a b c d : Int} (h : FixO a b ∧ FixO c d) : Ans Tryz.prog Φ 127 [wid a b, wid c d] (fxOk (a + c) (b + d)) := by
  refine fn_by hst (s_Fm hst) (vc_fxadd a b c d _) ?_
  have h1 := h.1
  have h2 := h.2
  unfold FixO at h1 h2
  rw [wrap_in (n := a + c) (by omega), wrap_in (n := b + d) (by omega)]
  refine ⟨trivial, bcase_iff.mpr ⟨fun q => ?_, fun q => ⟨?_, rfl⟩⟩⟩
  · rw [decide_eq_true (And.intro h.1.v h.2.v)] at q
    cases q
  · unfold FixV; omega
theorem c_fxsub {a b c d : Int} (h : FixO a b ∧ FixO c d) : Ans Tryz.prog Φ 121 [wid a b, wid c d] (fxOk (a - d) (b - c)) := by
  refine fn_by hst (s_Fm hst) (vc_fxsub a b c d _) ?_
  have h1 := h.1
  have h2 := h.2
  unfold FixO at h1 h2
  rw [wrap_in (n := a - d) (by omega), wrap_in (n := b - c) (by omega)]
  refine ⟨trivial, bcase_iff.mpr ⟨fun q => ?_, fun q => ⟨?_, rfl⟩⟩⟩
  · rw [decide_eq_true (And.intro h.1.v h.2.v)] at q
    cases q
  · unfold FixV; omega
theorem c_fxneg {a b : Int} (h : FixV a b) : Ans Tryz.prog Φ 146 [wid a b] (fxOk (-b) (-a)) := by
  refine fn_by hst (s_Fm hst) (vc_fxneg a b _) ?_
  have h1 := h
  unfold FixV at h1
  rw [wrap_in (n := 0 - b) (by omega), wrap_in (n := 0 - a) (by omega), Int.zero_sub, Int.zero_sub]
  refine ⟨trivial, bcase_iff.mpr ⟨fun q => ?_, fun q => rfl⟩⟩
  rw [decide_eq_true h] at q
  cases q
end Go.Proofs.YtjdcicjhpegphaaGreat

/- Arcs, points and places: what the functions answer. -/
namespace Go.Proofs.YtjdcicjhpegphaaGreat
open Go Go.Abs Go.RowKit
set_option linter.unusedVariables false
/-- The ends of an arc, far from the end of ints. -/
def E41 (a b : Int) : Prop := Q41 a ∧ Q41 b
def wrI (n : Int) : Int := n % 21600000
def sgI (n : Int) : Int := if 10800000 ≤ n % 21600000 then n % 21600000 - 21600000 else n % 21600000
def tuL (a b : Int) : Int := if 21600000 ≤ b - a then 0 else a % 21600000
def tuH (a b : Int) : Int := if 21600000 ≤ b - a then 21600000 else a % 21600000 + (b - a)
def loL (a b : Int) : Int := if 21600000 ≤ b - a then -10800000 else sgI a
def loH (a b : Int) : Int := if 21600000 ≤ b - a then 10800000 else sgI a + (b - a)
/-- Latitudes; longitudes; points. -/
def LatV (a b : Int) : Prop := a ≤ b ∧ -5400000 ≤ a ∧ b ≤ 5400000
instance (a b : Int) : Decidable (LatV a b) := by unfold LatV; infer_instance
def LonV (c d : Int) : Prop := (c = -10800000 ∧ d = 10800000) ∨ (-10800000 ≤ c ∧ c < 10800000 ∧ c ≤ d ∧ d < c + 21600000)
instance (c d : Int) : Decidable (LonV c d) := by unfold LonV; infer_instance
/-- What the program asks of longitudes: the difference wraps. -/
def LonP (c d : Int) : Prop := (c = -10800000 ∧ d = 10800000) ∨ (-10800000 ≤ c ∧ c < 10800000 ∧ c ≤ d ∧ IntKind.i64.wrap (d - c) < 21600000)
instance (c d : Int) : Decidable (LonP c d) := by unfold LonP; infer_instance
def PtV (a b : Int) : Prop := -5400000 ≤ a ∧ a ≤ 5400000 ∧ -10800000 ≤ b ∧ b < 10800000
instance (a b : Int) : Decidable (PtV a b) := by unfold PtV; infer_instance
def NearV (a b : Int) : Prop := -5340000 ≤ a ∧ a ≤ 5340000 ∧ -10800000 ≤ b ∧ b < 10800000
instance (a b : Int) : Decidable (NearV a b) := by unfold NearV; infer_instance
abbrev plc (a b c d : Int) : Value := .agg ⟨[.int .i64 a, .int .i64 b, .int .i64 c, .int .i64 d]⟩
def sEvery : FSpec := fun | [] => some (True, wid (-10800000) 10800000) | _ => none
def allB (a b : Int) : Bool := a == -10800000 && (b == 10800000 && true)
def sAllB : FSpec := fun | [.agg ⟨[.int .i64 a, .int .i64 b]⟩] => some (True, .bool (allB a b)) | _ => none
def sAnValid : FSpec := fun | [.agg ⟨[.int .i64 a, .int .i64 b]⟩] => some (True, .bool (decide (ArcV a b))) | _ => none
def sAnWrap : FSpec := fun | [.int .i64 n] => some (True, num (wrI n)) | _ => none
def sAnSigned : FSpec := fun | [.int .i64 n] => some (True, num (sgI n)) | _ => none
def sAnTurn : FSpec := fun | [.agg ⟨[.int .i64 a, .int .i64 b]⟩] => some (ArcV a b, pair (wid (tuL a b) (tuH a b)) (num 0)) | _ => none
def SbOk (a b c d : Int) : Prop := ArcV a b ∧ ArcV c d ∧ ArcV (a - d) (b - c)
def sAnSub : FSpec := fun | [.agg ⟨[.int .i64 a, .int .i64 b]⟩, .agg ⟨[.int .i64 c, .int .i64 d]⟩] => some (SbOk a b c d, pair (wid (a - d) (b - c)) (num 0)) | _ => none
def sLatV : FSpec := fun | [.agg ⟨[.int .i64 a, .int .i64 b]⟩] => some (True, .bool (decide (LatV a b))) | _ => none
def sLonP : FSpec := fun | [.agg ⟨[.int .i64 a, .int .i64 b]⟩] => some (True, .bool (decide (LonP a b))) | _ => none
def sPtV : FSpec := fun | [.agg ⟨[.int .i64 a, .int .i64 b]⟩] => some (True, .bool (decide (PtV a b))) | _ => none
def sNearV : FSpec := fun | [.agg ⟨[.int .i64 a, .int .i64 b]⟩] => some (True, .bool (decide (NearV a b))) | _ => none
def sPlV : FSpec := fun | [.agg ⟨[.int .i64 a, .int .i64 b, .int .i64 c, .int .i64 d]⟩] => some (True, .bool (decide (LatV a b ∧ LonP c d))) | _ => none
def sPlOf : FSpec := fun | [.agg ⟨[.int .i64 a, .int .i64 b]⟩] => some (PtV a b, pair (plc a a b b) (num 0)) | _ => none
def sLongi : FSpec := fun | [.agg ⟨[.int .i64 a, .int .i64 b]⟩] => some (ArcV a b, wid (loL a b) (loH a b)) | _ => none
def ΓAw : List (FuncId × CSpec) := [(52, .v sAnWrap), (26, .v sAnValid)]
def ΓAs : List (FuncId × CSpec) := (63, .v sAnSigned) :: ΓAw
def ΓPv : List (FuncId × CSpec) := [(96, .v sLatV), (97, .v sLonP)]
def ΓEv : List (FuncId × CSpec) := [(150, .v sEvery)]
def ΓAl : List (FuncId × CSpec) := [(129, .v sAllB)]
def ΓPo : List (FuncId × CSpec) := [(41, .v sPtV), (29, .v sPtV)]
end Go.Proofs.YtjdcicjhpegphaaGreat

/- Arcs, points and places: what the functions ask. -/
namespace Go.Proofs.YtjdcicjhpegphaaGreat
open Go Go.Abs Go.RowKit
set_option linter.unusedVariables false
set_option linter.unusedSimpArgs false
theorem vc_anvalid (a b : Int) (K : Value → Prop) : callsX Tryz.prog ([]) (noAnn) 26 [wid a b] K = (
 bcase (decide (a ≤ b)) (bcase (decide (a ≥ -1099511627776)) (bcase (decide (a ≤ 1099511627776)) (bcase (decide (b ≥ -1099511627776)) (K (Value.bool (decide (b ≤ 1099511627776)))) (K (Value.bool false))) (K (Value.bool false))) (K (Value.bool false))) (K (Value.bool false))) := by kernel_rfl
theorem vc_anwrap (n : Int) (K : Value → Prop) : callsX Tryz.prog ([]) (noAnn) 52 [num n] K = (
 bcase (decide (n.tmod 21600000 < 0)) (K (Value.int IntKind.i64 (IntKind.i64.wrap (n.tmod 21600000 + 21600000)))) (K (Value.int IntKind.i64 (n.tmod 21600000)))) := by kernel_rfl
theorem vc_ansigned (n : Int) (K : Value → Prop) : callsX Tryz.prog (ΓAw) (noAnn) 63 [num n] K = (
 True ∧ bcase (decide (wrI n ≥ 10800000)) (K (Value.int IntKind.i64 (IntKind.i64.wrap (wrI n - 21600000)))) (K (Value.int IntKind.i64 (wrI n)))) := by kernel_rfl
theorem vc_anturn (a b : Int) (K : Value → Prop) : callsX Tryz.prog (ΓAw) (noAnn) 38 [wid a b] K = (
 True ∧
 bcase (!decide (ArcV a b)) (K (Value.tuple #[Value.agg #[Value.int IntKind.i64 0, Value.int IntKind.i64 0], Value.int IntKind.i64 1]))
 (bcase (decide (IntKind.i64.wrap (b - a) ≥ 21600000)) (K (Value.tuple #[Value.agg #[Value.int IntKind.i64 0, Value.int IntKind.i64 21600000], Value.int IntKind.i64 0])) (True ∧ K (Value.tuple #[Value.agg #[Value.int IntKind.i64 (wrI a), Value.int IntKind.i64 (IntKind.i64.wrap (wrI a + IntKind.i64.wrap (b - a)))], Value.int IntKind.i64 0])))) := by kernel_rfl
theorem vc_ansub (a b c d : Int) (K : Value → Prop) : callsX Tryz.prog (ΓAw) (noAnn) 68 [wid a b, wid c d] K = (
 True ∧
 bcase (!decide (ArcV c d)) (K (Value.tuple #[Value.agg #[Value.int IntKind.i64 0, Value.int IntKind.i64 0], Value.int IntKind.i64 1]))
 (bcase (decide (IntKind.i64.wrap (0 - d) ≥ -1099511627776))
 (bcase (!decide (IntKind.i64.wrap (0 - d) ≤ 1099511627776)) (K (Value.tuple #[Value.agg #[Value.int IntKind.i64 0, Value.int IntKind.i64 0], Value.int IntKind.i64 5]))
 (bcase (decide (IntKind.i64.wrap (0 - c) ≥ -1099511627776))
 (bcase (!decide (IntKind.i64.wrap (0 - c) ≤ 1099511627776)) (K (Value.tuple #[Value.agg #[Value.int IntKind.i64 0, Value.int IntKind.i64 0], Value.int IntKind.i64 5]))
 (True ∧
 bcase (!decide (ArcV a b)) (K (Value.tuple #[Value.agg #[Value.int IntKind.i64 0, Value.int IntKind.i64 0], Value.int IntKind.i64 1]))
 (True ∧
 bcase (!decide (ArcV (IntKind.i64.wrap (0 - d)) (IntKind.i64.wrap (0 - c)))) (K (Value.tuple #[Value.agg #[Value.int IntKind.i64 0, Value.int IntKind.i64 0], Value.int IntKind.i64 1]))
 (bcase (decide (IntKind.i64.wrap (a + IntKind.i64.wrap (0 - d)) ≥ -1099511627776))
 (bcase (!decide (IntKind.i64.wrap (a + IntKind.i64.wrap (0 - d)) ≤ 1099511627776)) (K (Value.tuple #[Value.agg #[Value.int IntKind.i64 0, Value.int IntKind.i64 0], Value.int IntKind.i64 5]))
 (bcase (decide (IntKind.i64.wrap (b + IntKind.i64.wrap (0 - c)) ≥ -1099511627776))
 (bcase (!decide (IntKind.i64.wrap (b + IntKind.i64.wrap (0 - c)) ≤ 1099511627776)) (K (Value.tuple #[Value.agg #[Value.int IntKind.i64 0, Value.int IntKind.i64 0], Value.int IntKind.i64 5])) (K (Value.tuple #[Value.agg #[Value.int IntKind.i64 (IntKind.i64.wrap (a + IntKind.i64.wrap (0 - d))), Value.int IntKind.i64 (IntKind.i64.wrap (b + IntKind.i64.wrap (0 - c)))], Value.int IntKind.i64 0])))
 (K (Value.tuple #[Value.agg #[Value.int IntKind.i64 0, Value.int IntKind.i64 0], Value.int IntKind.i64 5]))))
 (K (Value.tuple #[Value.agg #[Value.int IntKind.i64 0, Value.int IntKind.i64 0], Value.int IntKind.i64 5]))))))
 (K (Value.tuple #[Value.agg #[Value.int IntKind.i64 0, Value.int IntKind.i64 0], Value.int IntKind.i64 5]))))
 (K (Value.tuple #[Value.agg #[Value.int IntKind.i64 0, Value.int IntKind.i64 0], Value.int IntKind.i64 5])))) := by kernel_rfl
theorem vc_pllat (a b : Int) (K : Value → Prop) : callsX Tryz.prog ([]) (noAnn) 96 [wid a b] K = (
 bcase (decide (a ≤ b)) (bcase (decide (a ≥ -5400000)) (K (Value.bool (decide (b ≤ 5400000)))) (K (Value.bool false))) (K (Value.bool false))) := by kernel_rfl
theorem vc_plevery  (K : Value → Prop) : callsX Tryz.prog ([]) (noAnn) 150 [] K = (
 K (Value.agg #[Value.int IntKind.i64 (-10800000), Value.int IntKind.i64 10800000])) := by kernel_rfl
theorem vc_plall (a b : Int) (K : Value → Prop) : callsX Tryz.prog (ΓEv) (noAnn) 129 [wid a b] K = (
 True ∧ K (Value.bool (a == -10800000 && (b == 10800000 && true)))) := by kernel_rfl
theorem vc_pllon (a b : Int) (K : Value → Prop) : callsX Tryz.prog (ΓAl) (noAnn) 97 [wid a b] K = (
 True ∧ bcase (allB a b) (K (Value.bool true)) (bcase (decide (a ≥ -10800000)) (bcase (decide (a < 10800000)) (bcase (decide (a ≤ b)) (K (Value.bool (decide (IntKind.i64.wrap (b - a) < 21600000)))) (K (Value.bool false))) (K (Value.bool false))) (K (Value.bool false)))) := by kernel_rfl
theorem vc_plvalid (a b c d : Int) (K : Value → Prop) : callsX Tryz.prog (ΓPv) (noAnn) 58 [plc a b c d] K = (
 True ∧ bcase (decide (LatV a b)) (True ∧ K (Value.bool (decide (LonP c d)))) (K (Value.bool false))) := by kernel_rfl
theorem vc_plvalidpoint (a b : Int) (K : Value → Prop) : callsX Tryz.prog ([]) (noAnn) 41 [wid a b] K = (
 bcase (decide (a ≥ -5400000)) (bcase (decide (a ≤ 5400000)) (bcase (decide (b ≥ -10800000)) (K (Value.bool (decide (b < 10800000)))) (K (Value.bool false))) (K (Value.bool false))) (K (Value.bool false))) := by kernel_rfl
theorem vc_r8validpoint (a b : Int) (K : Value → Prop) : callsX Tryz.prog ([]) (noAnn) 29 [wid a b] K = (
 bcase (decide (a ≥ -5400000)) (bcase (decide (a ≤ 5400000)) (bcase (decide (b ≥ -10800000)) (K (Value.bool (decide (b < 10800000)))) (K (Value.bool false))) (K (Value.bool false))) (K (Value.bool false))) := by kernel_rfl
theorem vc_plof (a b : Int) (K : Value → Prop) : callsX Tryz.prog (ΓPo) (noAnn) 30 [wid a b] K = (
 True ∧ bcase (!decide (PtV a b)) (K (Value.tuple #[Value.agg #[Value.int IntKind.i64 0, Value.int IntKind.i64 0, Value.int IntKind.i64 0, Value.int IntKind.i64 0], Value.int IntKind.i64 1])) (K (Value.tuple #[Value.agg #[Value.int IntKind.i64 a, Value.int IntKind.i64 a, Value.int IntKind.i64 b, Value.int IntKind.i64 b], Value.int IntKind.i64 0]))) := by kernel_rfl
theorem vc_longi (a b : Int) (K : Value → Prop) : callsX Tryz.prog (ΓAs) (noAnn) 28 [wid a b] K = (
 bcase (decide (IntKind.i64.wrap (b - a) ≥ 21600000)) (K (Value.agg #[Value.int IntKind.i64 (-10800000), Value.int IntKind.i64 10800000])) (True ∧ K (Value.agg #[Value.int IntKind.i64 (sgI a), Value.int IntKind.i64 (IntKind.i64.wrap (IntKind.i64.wrap (sgI a + b) - a))]))) := by kernel_rfl
theorem vc_r37near (a b : Int) (K : Value → Prop) : callsX Tryz.prog (ΓPo) (noAnn) 7 [wid a b] K = (
 True ∧ bcase (decide (PtV a b)) (bcase (decide (a ≥ -5340000)) (K (Value.bool (decide (a ≤ 5340000)))) (K (Value.bool false))) (K (Value.bool false))) := by kernel_rfl
theorem vc_linear (a b : Int) (K : Value → Prop) : callsX Tryz.prog ([]) (noAnn) 36 [wid a b] K = (
 bcase (decide (a ≥ -5340000)) (bcase (decide (a ≤ 5340000)) (bcase (decide (b ≥ -10800000)) (K (Value.bool (decide (b < 10800000)))) (K (Value.bool false))) (K (Value.bool false))) (K (Value.bool false))) := by kernel_rfl
end Go.Proofs.YtjdcicjhpegphaaGreat

/- Arcs, points and places: contracts. -/
namespace Go.Proofs.YtjdcicjhpegphaaGreat
open Go Go.Abs Go.RowKit
set_option linter.unusedVariables false
set_option linter.unusedSimpArgs false
theorem bo_yes {p : Prop} [Decidable p] (h : p) : Value.bool true = .bool (decide p) := by rw [decide_eq_true h]
theorem bo_no {p : Prop} [Decidable p] (h : ¬ p) : Value.bool false = .bool (decide p) := by rw [decide_eq_false h]
theorem bo_iff {p q : Prop} [Decidable p] [Decidable q] (h : p ↔ q) : Value.bool (decide p) = .bool (decide q) := by rw [decide_eq_decide.mpr h]
theorem tm_case (n : Int) : (n.tmod 21600000 < 0 ∧ n.tmod 21600000 + 21600000 = n % 21600000) ∨ (¬ n.tmod 21600000 < 0 ∧ n.tmod 21600000 = n % 21600000) := by
  have h1 := Int.emod_nonneg n (b := 21600000) (by omega)
  have h2 := Int.emod_lt_of_pos n (b := 21600000) (by omega)
  rw [Int.tmod_eq_emod]
  split <;> omega
variable {Φ : World → Prop} (hst : ∀ w w', Φ w → Below w.heap.size w w' → Φ w')
include hst
theorem c_anvalid (a b : Int) : Ans Tryz.prog Φ 26 [wid a b] (.bool (decide (ArcV a b))) := by
  refine fn_by hst Sound.nil (vc_anvalid a b _) ?_
  refine bcase_iff.mpr ⟨fun p => bcase_iff.mpr ⟨fun q => bcase_iff.mpr ⟨fun r => bcase_iff.mpr ⟨fun s => ?_, fun s => ?_⟩, fun r => ?_⟩, fun q => ?_⟩, fun p => ?_⟩
  all_goals (try simp only [decide_eq_true_eq, decide_eq_false_iff_not] at *)
  · exact bo_iff (by unfold ArcV; omega)
  all_goals exact bo_no (by unfold ArcV; omega)
theorem c_anwrap (n : Int) : Ans Tryz.prog Φ 52 [num n] (num (wrI n)) := by
  refine fn_by hst Sound.nil (vc_anwrap n _) ?_
  unfold wrI
  have m0 : 0 ≤ n % 21600000 ∧ n % 21600000 < 21600000 := by omega
  refine bcase_iff.mpr ⟨fun q => ?_, fun q => ?_⟩
  · have q := of_decide_eq_true q
    rcases tm_case n with ⟨_, e⟩ | ⟨h, _⟩
    · rw [e, wrap_in (by omega)]
    · exact absurd q h
  · have q := of_decide_eq_false q
    rcases tm_case n with ⟨h, _⟩ | ⟨_, e⟩
    · exact absurd h q
    · rw [e]
theorem s_Aw : Sound Tryz.prog Φ ΓAw :=
  Sound.cons (by kernel_rfl) (fun args p v h hp => by unfold sAnWrap at h; split at h <;> cases h; exact c_anwrap hst _)
  (Sound.cons (by kernel_rfl) (fun args p v h hp => by unfold sAnValid at h; split at h <;> cases h; exact c_anvalid hst _ _) Sound.nil)
theorem c_ansigned (n : Int) : Ans Tryz.prog Φ 63 [num n] (num (sgI n)) := by
  refine fn_by hst (s_Aw hst) (vc_ansigned n _) ?_
  unfold wrI sgI
  refine ⟨trivial, bcase_iff.mpr ⟨fun q => ?_, fun q => ?_⟩⟩
  · have q := of_decide_eq_true q
    rw [if_pos q, wrap_in (by omega)]
  · have q := of_decide_eq_false q
    rw [if_neg q]
theorem s_As : Sound Tryz.prog Φ ΓAs :=
  Sound.cons (by kernel_rfl) (fun args p v h hp => by unfold sAnSigned at h; split at h <;> cases h; exact c_ansigned hst _) (s_Aw hst)
theorem c_anturn {a b : Int} (h : ArcV a b) : Ans Tryz.prog Φ 38 [wid a b] (pair (wid (tuL a b) (tuH a b)) (num 0)) := by
  refine fn_by hst (s_Aw hst) (vc_anturn a b _) ?_
  have hh := h
  unfold ArcV at hh
  rw [wrap_in (n := b - a) (by omega), decide_eq_true h]
  unfold tuL tuH wrI
  refine ⟨trivial, bcase_iff.mpr ⟨fun q => absurd q (by decide), fun _ => bcase_iff.mpr ⟨fun q => ?_, fun q => ⟨trivial, ?_⟩⟩⟩⟩
  · have q := of_decide_eq_true q
    rw [if_pos q, if_pos q]
  · have q := of_decide_eq_false q
    rw [if_neg q, if_neg q, wrap_in (by omega)]
theorem c_ansub {a b c d : Int} (h : SbOk a b c d) : Ans Tryz.prog Φ 68 [wid a b, wid c d] (pair (wid (a - d) (b - c)) (num 0)) := by
  refine fn_by hst (s_Aw hst) (vc_ansub a b c d _) ?_
  obtain ⟨h1, h2, h3⟩ := h
  have e1 := decide_eq_true h1
  have e2 := decide_eq_true h2
  have h4 : ArcV (0 - d) (0 - c) := by unfold ArcV at *; omega
  have e4 := decide_eq_true h4
  have g1 := h1
  have g2 := h2
  have g3 := h3
  unfold ArcV at g1 g2 g3
  rw [wrap_in (n := 0 - d) (by omega), wrap_in (n := 0 - c) (by omega), wrap_in (n := a + (0 - d)) (by omega), wrap_in (n := b + (0 - c)) (by omega), e1, e2, e4]
  rw [decide_eq_true (p := 0 - d ≥ -1099511627776) (by omega), decide_eq_true (p := 0 - d ≤ 1099511627776) (by omega), decide_eq_true (p := 0 - c ≥ -1099511627776) (by omega), decide_eq_true (p := 0 - c ≤ 1099511627776) (by omega), decide_eq_true (p := a + (0 - d) ≥ -1099511627776) (by omega), decide_eq_true (p := a + (0 - d) ≤ 1099511627776) (by omega), decide_eq_true (p := b + (0 - c) ≥ -1099511627776) (by omega), decide_eq_true (p := b + (0 - c) ≤ 1099511627776) (by omega)]
  refine ⟨trivial, trivial, trivial, ?_⟩
  show Value.tuple #[wid (a + (0 - d)) (b + (0 - c)), num 0] = _
  rw [show a + (0 - d) = a - d by omega, show b + (0 - c) = b - c by omega]
theorem c_pllat (a b : Int) : Ans Tryz.prog Φ 96 [wid a b] (.bool (decide (LatV a b))) := by
  refine fn_by hst Sound.nil (vc_pllat a b _) ?_
  refine bcase_iff.mpr ⟨fun p => bcase_iff.mpr ⟨fun q => ?_, fun q => ?_⟩, fun p => ?_⟩
  all_goals (try simp only [decide_eq_true_eq, decide_eq_false_iff_not] at *)
  · exact bo_iff (by unfold LatV; omega)
  all_goals exact bo_no (by unfold LatV; omega)
theorem c_plevery : Ans Tryz.prog Φ 150 [] (wid (-10800000) 10800000) := fn_by hst Sound.nil (vc_plevery _) rfl
theorem c_plall (a b : Int) : Ans Tryz.prog Φ 129 [wid a b] (.bool (allB a b)) :=
  fn_by hst (Sound.cons (by kernel_rfl) (fun args p v h hp => by unfold sEvery at h; split at h <;> cases h; exact c_plevery hst) Sound.nil) (vc_plall a b _) ⟨trivial, rfl⟩
omit hst in
theorem all_iff (a b : Int) : allB a b = true ↔ a = -10800000 ∧ b = 10800000 := by unfold allB; simp
theorem c_pllon (a b : Int) : Ans Tryz.prog Φ 97 [wid a b] (.bool (decide (LonP a b))) := by
  refine fn_by hst (Sound.cons (by kernel_rfl) (fun args p v h hp => by unfold sAllB at h; split at h <;> cases h; exact c_plall hst _ _) Sound.nil) (vc_pllon a b _) ?_
  refine ⟨trivial, bcase_iff.mpr ⟨fun p => ?_, fun p => bcase_iff.mpr ⟨fun q => bcase_iff.mpr ⟨fun r => bcase_iff.mpr ⟨fun s => ?_, fun s => ?_⟩, fun r => ?_⟩, fun q => ?_⟩⟩⟩
  · exact bo_yes (.inl ((all_iff a b).mp p))
  all_goals have p : ¬ (a = -10800000 ∧ b = 10800000) := fun e => by rw [(all_iff a b).mpr e] at p; cases p
  all_goals (try simp only [decide_eq_true_eq, decide_eq_false_iff_not] at *)
  · exact bo_iff (by unfold LonP; omega)
  all_goals exact bo_no (by unfold LonP; omega)
theorem c_plvalid (a b c d : Int) : Ans Tryz.prog Φ 58 [plc a b c d] (.bool (decide (LatV a b ∧ LonP c d))) := by
  refine fn_by hst (Sound.cons (by kernel_rfl) (fun args p v h hp => by unfold sLatV at h; split at h <;> cases h; exact c_pllat hst _ _) (Sound.cons (by kernel_rfl) (fun args p v h hp => by unfold sLonP at h; split at h <;> cases h; exact c_pllon hst _ _) Sound.nil)) (vc_plvalid a b c d _) ?_
  refine ⟨trivial, bcase_iff.mpr ⟨fun p => ⟨trivial, ?_⟩, fun p => ?_⟩⟩
  · exact bo_iff ⟨fun h => ⟨of_decide_eq_true p, h⟩, fun h => h.2⟩
  · exact bo_no (fun h => of_decide_eq_false p h.1)
theorem c_plvalidpoint (a b : Int) : Ans Tryz.prog Φ 41 [wid a b] (.bool (decide (PtV a b))) := by
  refine fn_by hst Sound.nil (vc_plvalidpoint a b _) ?_
  refine bcase_iff.mpr ⟨fun p => bcase_iff.mpr ⟨fun q => bcase_iff.mpr ⟨fun r => ?_, fun r => ?_⟩, fun q => ?_⟩, fun p => ?_⟩
  all_goals (try simp only [decide_eq_true_eq, decide_eq_false_iff_not] at *)
  · exact bo_iff (by unfold PtV; omega)
  all_goals exact bo_no (by unfold PtV; omega)
theorem c_r8validpoint (a b : Int) : Ans Tryz.prog Φ 29 [wid a b] (.bool (decide (PtV a b))) := by
  refine fn_by hst Sound.nil (vc_r8validpoint a b _) ?_
  refine bcase_iff.mpr ⟨fun p => bcase_iff.mpr ⟨fun q => bcase_iff.mpr ⟨fun r => ?_, fun r => ?_⟩, fun q => ?_⟩, fun p => ?_⟩
  all_goals (try simp only [decide_eq_true_eq, decide_eq_false_iff_not] at *)
  · exact bo_iff (by unfold PtV; omega)
  all_goals exact bo_no (by unfold PtV; omega)
theorem s_Po : Sound Tryz.prog Φ ΓPo :=
  Sound.cons (by kernel_rfl) (fun args p v h hp => by unfold sPtV at h; split at h <;> cases h; exact c_plvalidpoint hst _ _)
  (Sound.cons (by kernel_rfl) (fun args p v h hp => by unfold sPtV at h; split at h <;> cases h; exact c_r8validpoint hst _ _) Sound.nil)
theorem c_plof {a b : Int} (h : PtV a b) : Ans Tryz.prog Φ 30 [wid a b] (pair (plc a a b b) (num 0)) := by
  refine fn_by hst (s_Po hst) (vc_plof a b _) ?_
  rw [decide_eq_true h]
  exact ⟨trivial, rfl⟩
theorem c_longi {a b : Int} (h : ArcV a b) : Ans Tryz.prog Φ 28 [wid a b] (wid (loL a b) (loH a b)) := by
  refine fn_by hst (s_As hst) (vc_longi a b _) ?_
  have hh := h
  have hs : -10800000 ≤ sgI a ∧ sgI a < 10800000 := by unfold sgI; omega
  unfold ArcV at hh
  rw [wrap_in (n := b - a) (by omega), wrap_in (n := sgI a + b) (by omega)]
  unfold loL loH
  refine bcase_iff.mpr ⟨fun q => ?_, fun q => ⟨trivial, ?_⟩⟩
  · have q := of_decide_eq_true q
    rw [if_pos q, if_pos q]
  · have q := of_decide_eq_false q
    rw [if_neg q, if_neg q, wrap_in (by omega), show sgI a + b - a = sgI a + (b - a) by omega]
theorem c_r37near (a b : Int) : Ans Tryz.prog Φ 7 [wid a b] (.bool (decide (NearV a b))) := by
  refine fn_by hst (s_Po hst) (vc_r37near a b _) ?_
  refine ⟨trivial, bcase_iff.mpr ⟨fun p => bcase_iff.mpr ⟨fun q => ?_, fun q => ?_⟩, fun p => ?_⟩⟩
  all_goals (try simp only [decide_eq_true_eq, decide_eq_false_iff_not] at *)
  · exact bo_iff (by unfold NearV; unfold PtV at *; omega)
  all_goals exact bo_no (by unfold NearV; unfold PtV at *; omega)
theorem c_linear (a b : Int) : Ans Tryz.prog Φ 36 [wid a b] (.bool (decide (NearV a b))) := by
  refine fn_by hst Sound.nil (vc_linear a b _) ?_
  refine bcase_iff.mpr ⟨fun p => bcase_iff.mpr ⟨fun q => bcase_iff.mpr ⟨fun r => ?_, fun r => ?_⟩, fun q => ?_⟩, fun p => ?_⟩
  all_goals (try simp only [decide_eq_true_eq, decide_eq_false_iff_not] at *)
  · exact bo_iff (by unfold NearV; omega)
  all_goals exact bo_no (by unfold NearV; omega)
end Go.Proofs.YtjdcicjhpegphaaGreat
