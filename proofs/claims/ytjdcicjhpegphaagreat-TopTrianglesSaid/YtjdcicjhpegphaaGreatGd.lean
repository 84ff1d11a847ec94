/- Several texts in one: CtQ, FixS, FixV, FixC, FmS, FmV, FmC, AnS, AnV, AnC. Several texts in one: AtgV, AtgC, AtgM, AtsS, AtsV, AtsC, AtcS, AtcV, AtcC, AtdS, AtdV, AtdC. -/
import Derived.Test.YtjdcicjhpegphaaGreatGb
import Derived.Test.YtjdcicjhpegphaaGreatGc
set_option linter.unusedSimpArgs false
set_option linter.unusedVariables false
/- Contracts of quotient, Floor, Ceil. -/
namespace Go.Proofs.YtjdcicjhpegphaaGreat
open Go Go.Abs Go.RowKit
def more (R : Int) (c : Bool) : Int := if R > 0 ∧ c = true then 1 else 0
theorem neg_ediv' {A m : Int} (hm : 0 < m) : (-A) / m = -(A / m + more (A % m) true) := by
  have e := Int.mul_ediv_add_emod A m
  have r0 := Int.emod_nonneg A (show m ≠ 0 by omega)
  have r1 := Int.emod_lt_of_pos A hm
  generalize A / m = Q at *
  generalize A % m = R at *
  unfold more
  by_cases h : R > 0
  · rw [if_pos ⟨h, rfl⟩]
    have : -A = (m - R) + (-(Q + 1)) * m := by rw [← e]; grind
    rw [this, Int.add_mul_ediv_right _ _ (by omega), Int.ediv_eq_zero_of_lt (by omega) (by omega)]
    omega
  · have : R = 0 := by omega
    subst this
    rw [if_neg (fun q => h q.1)]
    have : -A = (-Q) * m := by rw [← e]; grind
    rw [this, Int.mul_ediv_cancel _ (by omega)]
    omega
theorem quoI_abs {V n : Int} (up : Bool) (hn : n ≠ 0) :
    quoI V n up = if decide (V < 0) = decide (n < 0) then absI V / absI n + more (absI V % absI n) up else -(absI V / absI n + more (absI V % absI n) (!up)) := by
  have em : ∀ x : Int, more x false = 0 := fun x => by unfold more; simp
  have fd : ∀ {a m : Int}, 0 < m → a.fdiv m = a / m := fun {a m} h => Int.fdiv_eq_ediv_of_nonneg a (by omega)
  have fn : ∀ {a m : Int}, m < 0 → a.fdiv m = (-a) / (-m) := fun {a m} h => by rw [← fd (by omega), Int.neg_fdiv_neg]
  unfold quoI
  rcases absI_cases V with ⟨h1, e1⟩ | ⟨h1, e1⟩ <;> rcases absI_cases n with ⟨h2, e2⟩ | ⟨h2, e2⟩ <;> rw [e1, e2] <;> cases up <;> simp only [Bool.false_eq_true, if_false, if_true, Bool.not_true, Bool.not_false, em]
  · rw [if_pos (by simp [h1, h2]), fn h2]; omega
  · rw [if_pos (by simp [h1, h2]), fn h2, neg_ediv' (by omega)]; omega
  · rw [if_neg (by simp [h1]; omega), fd (by omega), show V = -(-V) by omega, neg_ediv' (by omega), Int.neg_neg]
  · rw [if_neg (by simp [h1]; omega), fd (by omega)]; omega
  · rw [if_neg (by simp [h2]; omega), fn h2, neg_ediv' (by omega)]
  · rw [if_neg (by simp [h2]; omega), fn h2, Int.neg_neg]; omega
  · rw [if_pos (by simp; omega), fd (by omega)]; omega
  · rw [if_pos (by simp; omega), fd (by omega), neg_ediv' (by omega)]; omega
variable {Φ : World → Prop} (hst : ∀ w w', Φ w → Below w.heap.size w w' → Φ w')
include hst
theorem s_quo : Sound Tryz.prog Φ ΓQ :=
  Sound.cons (by kernel_rfl) (fun args p v h hp => by unfold sWSizeOf at h; split at h <;> cases h; exact c_wsizeof hst _ _ hp)
  (Sound.cons (by kernel_rfl) (fun args p v h hp => by unfold sWAbs at h; split at h <;> cases h; exact c_wabs hst _ hp)
  (Sound.cons (by kernel_rfl) (fun args p v h hp => by unfold sDiv64 at h; split at h <;> cases h; exact c_div64 hst _ _ _ hp.1 hp.2.1 hp.2.2.1 hp.2.2.2) (s_wvalid hst)))
omit hst in
theorem q_ok {h l b x : Int} {up : Bool} (hv : WV h l) (hb : b ≠ 0) (hx : x = quoI (val h l) b up) (hi : I64 x) : Value.tuple #[.int .i64 x, .int .i64 0] = qAns h l b up := by
  subst hx
  exact eq_pair (eq_num (gate_yes (show okQ h l b up from ⟨hv, hb, hi⟩) _).symm) (eq_num (by rw [pick_yes hv, pick_no hb, pick_yes hi]))
omit hst in
theorem q_big {h l b : Int} {up : Bool} (hv : WV h l) (hb : b ≠ 0) (hi : ¬ I64 (quoI (val h l) b up)) : Value.tuple #[.int .i64 0, .int .i64 5] = qAns h l b up :=
  eq_pair (eq_num (gate_no (fun q : okQ h l b up => hi q.2.2) _).symm) (eq_num (by rw [pick_yes hv, pick_no hb, pick_no hi]))
theorem c_wquotient (a b n : Int) (up : Bool) (hn : I64 n) : Ans Tryz.prog Φ 169 [wid a b, num n, .bool up] (qAns a b n up) := by
  refine fn_by hst (s_quo hst) (vc_wquotient a b n up _) ?_
  refine ⟨trivial, ?_⟩
  by_cases hv : ¬ WV a b
  · rw [decide_eq_false hv]
    exact eq_pair (eq_num (gate_no (fun q : okQ a b n up => hv q.1) _).symm) (eq_num (by rw [pick_no hv]))
  have hv := Decidable.not_not.1 hv
  rw [decide_eq_true hv]
  by_cases hz : n = 0
  · subst hz
    exact eq_pair (eq_num (gate_no (fun q : okQ a b 0 up => q.2.1 rfl) _).symm) (eq_num (by rw [pick_yes hv, pick_yes rfl]))
  have hz' : (n == 0) = false := by simp [hz]
  rw [hz']
  refine ⟨hv, hn, ?_⟩
  have ok := @q_ok a b n
  have big := @q_big a b n up hv hz
  rw [quoI_abs up hz] at big
  have hq : ∀ x, x = quoI (val a b) n up → I64 x → Value.tuple #[.int .i64 x, .int .i64 0] = qAns a b n up := fun x => q_ok hv hz
  rw [quoI_abs up hz] at hq
  have hV : -1329227995784915872903807060280344576 ≤ val a b ∧ val a b < 1329227995784915872903807060280344576 := by unfold WV at hv; unfold val; omega
  unfold I64 at hn
  have qa := absI_cases (val a b)
  have qn := absI_cases n
  generalize val a b = V at *
  have hA0 : 0 ≤ absI V := by omega
  have hD : 0 < absI n := by omega
  have eA : absI V / 18446744073709551616 * 18446744073709551616 + absI V % 18446744073709551616 = absI V := by omega
  rw [eA]
  have r0 := Int.emod_nonneg (absI V) (show absI n ≠ 0 by omega)
  have r1 := Int.emod_lt_of_pos (absI V) hD
  have e := Int.mul_ediv_add_emod (absI V) (absI n)
  have q0 : 0 ≤ absI V / absI n := Int.ediv_nonneg hA0 (by omega)
  by_cases hb : absI V / 18446744073709551616 ≥ absI n
  · rw [decide_eq_true hb]
    refine big ?_
    have hbig : 18446744073709551616 ≤ absI V / absI n := (Int.le_ediv_iff_mul_le hD).2 (by omega)
    unfold I64 more
    split <;> split <;> omega
  rw [decide_eq_false hb]
  refine ⟨⟨by unfold U64; omega, by unfold U64; omega, by unfold U64; omega, by omega⟩, ?_⟩
  have hq1 : absI V / absI n < 18446744073709551616 := Int.ediv_lt_of_lt_mul hD (by rw [Int.mul_comm]; omega)
  generalize absI V / absI n = Q at *
  generalize absI V % absI n = R at *
  have w1 : ∀ {x : Int}, 0 ≤ x → x < 18446744073709551616 → IntKind.u64.wrap x = x := fun {x} h1 h2 => by rw [wrap_u]; omega
  have w3 : ∀ {x : Int}, 0 ≤ x → x ≤ 9223372036854775808 → IntKind.i64.wrap (IntKind.u64.wrap (0 - x)) = -x := fun {x} h1 h2 => by
    rw [wrap_u]
    rcases Int.lt_or_le 0 x with h | h
    · rw [wrap_up (by omega) (by omega)]; omega
    · have : x = 0 := by omega
      subst this; rfl
  have w4 : ∀ {x : Int}, 0 ≤ x → x < 9223372036854775808 → IntKind.i64.wrap x = x := fun {x} h1 h2 => wrap_in (by omega)
  generalize decide (V < 0) = s1 at *
  generalize decide (n < 0) = s2 at *
  generalize qAns a b n up = ans at *
  clear ok
  by_cases hR : R > 0
  · rw [decide_eq_true hR]
    by_cases hQ : Q = 18446744073709551615
    · have e1 : IntKind.u64.wrap (Q + 1) = 0 := by rw [hQ]; rfl
      rw [e1]
      unfold more I64 at big
      unfold more I64 at hq
      cases s1 <;> cases s2 <;> cases up <;> simp only [Bool.not_true, Bool.not_false, Bool.true_beq, Bool.false_beq, decide_true, decide_false, reduceCtorEq, Bool.true_eq_false, Bool.false_eq_true, beq_self_eq_true, true_implies, bcase_true, bcase_false, if_true, if_false, hR, true_and, and_true, and_false, Int.add_zero, hQ] at big hq ⊢ <;> first | exact big (by omega) | (simp only [bcase_iff, decide_eq_true_eq, decide_eq_false_iff_not]; exact ⟨fun h => absurd h (by decide), fun _ => big (by omega)⟩)
    · have e1 : IntKind.u64.wrap (Q + 1) = Q + 1 := w1 (by omega) (by omega)
      have e2 : (Q + 1 == 0) = false := by simp; omega
      rw [e1, e2]
      unfold more I64 at big
      unfold more I64 at hq
      cases s1 <;> cases s2 <;> cases up <;> simp only [Bool.not_true, Bool.not_false, Bool.true_beq, Bool.false_beq, decide_true, decide_false, reduceCtorEq, Bool.true_eq_false, Bool.false_eq_true, beq_self_eq_true, true_implies, bcase_true, bcase_false, if_true, if_false, hR, true_and, and_true, and_false, Int.add_zero] at big hq ⊢ <;> simp only [bcase_iff, decide_eq_true_eq, decide_eq_false_iff_not] <;> refine ⟨fun h => ?_, fun h => ?_⟩ <;>
        first | exact big (by omega) | (rw [w3 (by omega) (by omega)]; exact hq _ (by omega) (by omega)) | (rw [w4 (by omega) (by omega)]; exact hq _ (by omega) (by omega))
  · rw [decide_eq_false hR]
    unfold more I64 at big
    unfold more I64 at hq
    cases s1 <;> cases s2 <;> cases up <;> simp only [Bool.not_true, Bool.not_false, Bool.true_beq, Bool.false_beq, decide_true, decide_false, reduceCtorEq, Bool.true_eq_false, Bool.false_eq_true, beq_self_eq_true, true_implies, bcase_true, bcase_false, if_true, if_false, hR, true_and, and_true, and_false, false_and, Int.add_zero] at big hq ⊢ <;> simp only [bcase_iff, decide_eq_true_eq, decide_eq_false_iff_not] <;> refine ⟨fun h => ?_, fun h => ?_⟩ <;>
        first | exact big (by omega) | (rw [w3 (by omega) (by omega)]; exact hq _ (by omega) (by omega)) | (rw [w4 (by omega) (by omega)]; exact hq _ (by omega) (by omega))
theorem s_wquo : Sound Tryz.prog Φ ΓT :=
  Sound.cons (by kernel_rfl) (fun args p v h hp => by unfold sWQuotient at h; split at h <;> cases h; exact c_wquotient hst _ _ _ _ hp) Sound.nil
theorem c_wfloor (a b n : Int) (hn : I64 n) : Ans Tryz.prog Φ 154 [wid a b, num n] (qAns a b n false) := by
  refine fn_by hst (s_wquo hst) (vc_wfloor a b n _) ?_
  exact ⟨hn, rfl⟩
theorem c_wceil (a b n : Int) (hn : I64 n) : Ans Tryz.prog Φ 155 [wid a b, num n] (qAns a b n true) := by
  refine fn_by hst (s_wquo hst) (vc_wceil a b n _) ?_
  exact ⟨hn, rfl⟩
end Go.Proofs.YtjdcicjhpegphaaGreat
/- Quotients of intervals, by the program and by the reference: what they answer. -/
namespace Go.Proofs.YtjdcicjhpegphaaGreat
open Go Go.Abs Go.RowKit
def Q31 (n : Int) : Prop := -2147483648 ≤ n ∧ n ≤ 2147483648
def Q40 (n : Int) : Prop := -1099511627776 ≤ n ∧ n ≤ 1099511627776
instance (n : Int) : Decidable (Q40 n) := by unfold Q40; infer_instance
def FixV (a b : Int) : Prop := -2147483648 ≤ a ∧ a ≤ b ∧ b ≤ 2147483648
instance (a b : Int) : Decidable (FixV a b) := by unfold FixV; infer_instance
def flQ (x n d : Int) : Int := x * n / d
def ceQ (x n d : Int) : Int := -(-(x * n) / d)
def eL (x n d : Int) : Int := gate (I64 (flQ x n d)) (flQ x n d)
def eH (x n d : Int) : Int := gate (I64 (flQ x n d) ∧ I64 (ceQ x n d)) (ceQ x n d)
def eE (x n d : Int) : Int := pick (I64 (flQ x n d) ∧ I64 (ceQ x n d)) 0 5
abbrev trip (a b c : Int) : Value := .tuple ⟨[num a, num b, num c]⟩
def sFxEnclose : FSpec := fun | [.int .i64 x, .int .i64 n, .int .i64 d] => some (Q31 x ∧ Q40 n ∧ 0 < d ∧ d ≤ 2147483648, trip (eL x n d) (eH x n d) (eE x n d)) | _ => none
def sFxValid : FSpec := fun | [.agg ⟨[.int .i64 a, .int .i64 b]⟩] => some (True, .bool (decide (FixV a b))) | _ => none
def sFxBoth : FSpec := fun | [.agg ⟨[.int .i64 a, .int .i64 b]⟩, .agg ⟨[.int .i64 c, .int .i64 d]⟩] => some (True, .bool (decide (FixV a b ∧ FixV c d))) | _ => none
def sFxFactor : FSpec := fun | [.int .i64 n] => some (True, .bool (decide (Q40 n))) | _ => none
def sFxZero : FSpec := fun | [.agg ⟨[.int .i64 a, .int .i64 b]⟩] => some (True, .bool (decide (a ≤ 0 ∧ 0 ≤ b))) | _ => none
def qL (a b c d n : Int) : Int := min (min (flQ a n c) (flQ a n d)) (min (flQ b n c) (flQ b n d))
def qH (a b c d n : Int) : Int := max (max (ceQ a n c) (ceQ a n d)) (max (ceQ b n c) (ceQ b n d))
def okF (a b c d n : Int) : Prop := -1099511627776 ≤ qL a b c d n ∧ qH a b c d n ≤ 1099511627776
instance (a b c d n : Int) : Decidable (okF a b c d n) := by unfold okF; infer_instance
abbrev quoAns (a b c d n : Int) : Value := trip (gate (okF a b c d n) (qL a b c d n)) (gate (okF a b c d n) (qH a b c d n)) (pick (okF a b c d n) 0 5)
def ΓFe : List (FuncId × CSpec) := [(153, .v sWProduct), (154, .v sWFloor), (155, .v sWCeil)]
def ΓFb : List (FuncId × CSpec) := [(91, .v sFxValid)]
def ΓFq : List (FuncId × CSpec) := [(86, .v sFxBoth), (133, .v sFxFactor), (87, .v sFxZero), (134, .v sFxEnclose)]
def fiveF : FuncId → List (Nat × LoopBy) := fun _ => [(1, .times 5)]
end Go.Proofs.YtjdcicjhpegphaaGreat
/- Quotients of intervals, by the program: what they ask. -/
namespace Go.Proofs.YtjdcicjhpegphaaGreat
open Go Go.Abs Go.RowKit
theorem vc_fxenclose (x n d : Int) (K : Value → Prop) : callsX Tryz.prog (ΓFe) (noAnn) 134 [num x, num n, num d] K = (
 (I64 x ∧ I64 n) ∧
 bcase (pick (F120 (x * n)) 0 5 != 0) (K (Value.tuple #[Value.int IntKind.i64 0, Value.int IntKind.i64 0, Value.int IntKind.i64 (pick (F120 (x * n)) 0 5)]))
 (I64 d ∧
 bcase (pick (WV (gate (F120 (x * n)) (hiO (x * n))) (gate (F120 (x * n)) (loO (x * n)))) (pick (d = 0) 16 (pick (I64 (quoI (val (gate (F120 (x * n)) (hiO (x * n))) (gate (F120 (x * n)) (loO (x * n)))) d false)) 0 5)) 1 != 0)
 (K (Value.tuple #[Value.int IntKind.i64 0, Value.int IntKind.i64 0, Value.int IntKind.i64 (pick (WV (gate (F120 (x * n)) (hiO (x * n))) (gate (F120 (x * n)) (loO (x * n)))) (pick (d = 0) 16 (pick (I64 (quoI (val (gate (F120 (x * n)) (hiO (x * n))) (gate (F120 (x * n)) (loO (x * n)))) d false)) 0 5)) 1)]))
 (I64 d ∧
 K
 (Value.tuple
 #[Value.int IntKind.i64 (gate (okQ (gate (F120 (x * n)) (hiO (x * n))) (gate (F120 (x * n)) (loO (x * n))) d false) (quoI (val (gate (F120 (x * n)) (hiO (x * n))) (gate (F120 (x * n)) (loO (x * n)))) d false)),
 Value.int IntKind.i64 (gate (okQ (gate (F120 (x * n)) (hiO (x * n))) (gate (F120 (x * n)) (loO (x * n))) d true) (quoI (val (gate (F120 (x * n)) (hiO (x * n))) (gate (F120 (x * n)) (loO (x * n)))) d true)),
 Value.int IntKind.i64 (pick (WV (gate (F120 (x * n)) (hiO (x * n))) (gate (F120 (x * n)) (loO (x * n)))) (pick (d = 0) 16 (pick (I64 (quoI (val (gate (F120 (x * n)) (hiO (x * n))) (gate (F120 (x * n)) (loO (x * n)))) d true)) 0 5)) 1)])))) := by kernel_rfl
theorem vc_fxvalid (a b : Int) (K : Value → Prop) : callsX Tryz.prog ([]) (noAnn) 91 [wid a b] K = (
 bcase (decide (a ≥ -2147483648)) (bcase (decide (a ≤ b)) (K (Value.bool (decide (b ≤ 2147483648)))) (K (Value.bool false))) (K (Value.bool false))) := by kernel_rfl
theorem vc_fxboth (a b c d : Int) (K : Value → Prop) : callsX Tryz.prog (ΓFb) (noAnn) 86 [wid a b, wid c d] K = (
 True ∧ bcase (decide (FixV a b)) (True ∧ K (Value.bool (decide (FixV c d)))) (K (Value.bool false))) := by kernel_rfl
theorem vc_fxfactor (n : Int) (K : Value → Prop) : callsX Tryz.prog ([]) (noAnn) 133 [num n] K = (
 bcase (decide (n ≥ -1099511627776)) (K (Value.bool (decide (n ≤ 1099511627776)))) (K (Value.bool false))) := by kernel_rfl
theorem vc_fxzero (a b : Int) (K : Value → Prop) : callsX Tryz.prog ([]) (noAnn) 87 [wid a b] K = (
 bcase (decide (a ≤ 0)) (K (Value.bool (decide (b ≥ 0)))) (K (Value.bool false))) := by kernel_rfl
theorem vc_fxquo (a b c d n : Int) (K : Value → Prop) : callsX Tryz.prog (ΓFq) (fiveF) 104 [wid a b, wid c d, num n] K = (
 True ∧
 bcase (!decide (FixV a b ∧ FixV c d)) (K (Value.tuple #[Value.int IntKind.i64 0, Value.int IntKind.i64 0, Value.int IntKind.i64 1]))
 (True ∧
 bcase (!decide (Q40 n)) (K (Value.tuple #[Value.int IntKind.i64 0, Value.int IntKind.i64 0, Value.int IntKind.i64 2]))
 (True ∧
 bcase (decide (c ≤ 0 ∧ 0 ≤ d)) (K (Value.tuple #[Value.int IntKind.i64 0, Value.int IntKind.i64 0, Value.int IntKind.i64 16]))
 ((Q31 a ∧ Q40 n ∧ 0 < c ∧ c ≤ 2147483648) ∧
 bcase (eE a n c != 0) (K (Value.tuple #[Value.int IntKind.i64 0, Value.int IntKind.i64 0, Value.int IntKind.i64 5]))
 ((Q31 a ∧ Q40 n ∧ 0 < d ∧ d ≤ 2147483648) ∧
 bcase (eE a n d != 0) (K (Value.tuple #[Value.int IntKind.i64 0, Value.int IntKind.i64 0, Value.int IntKind.i64 5]))
 ((Q31 b ∧ Q40 n ∧ 0 < c ∧ c ≤ 2147483648) ∧
 bcase (eE b n c != 0) (K (Value.tuple #[Value.int IntKind.i64 0, Value.int IntKind.i64 0, Value.int IntKind.i64 5]))
 ((Q31 b ∧ Q40 n ∧ 0 < d ∧ d ≤ 2147483648) ∧
 bcase (eE b n d != 0) (K (Value.tuple #[Value.int IntKind.i64 0, Value.int IntKind.i64 0, Value.int IntKind.i64 5]))
 (True ∧
 bcase
 (!decide
 (Q40
 (if eL b n d < if eL b n c < if eL a n d < if eL a n c < eL a n c then eL a n c else eL a n c then eL a n d else if eL a n c < eL a n c then eL a n c else eL a n c then eL b n c else if eL a n d < if eL a n c < eL a n c then eL a n c else eL a n c then eL a n d else if eL a n c < eL a n c then eL a n c else eL a n c then eL b n d
 else if eL b n c < if eL a n d < if eL a n c < eL a n c then eL a n c else eL a n c then eL a n d else if eL a n c < eL a n c then eL a n c else eL a n c then eL b n c else if eL a n d < if eL a n c < eL a n c then eL a n c else eL a n c then eL a n d else if eL a n c < eL a n c then eL a n c else eL a n c)))
 (K (Value.tuple #[Value.int IntKind.i64 0, Value.int IntKind.i64 0, Value.int IntKind.i64 5]))
 (True ∧
 bcase
 (!decide
 (Q40
 (if eH b n d > if eH b n c > if eH a n d > if eH a n c > eH a n c then eH a n c else eH a n c then eH a n d else if eH a n c > eH a n c then eH a n c else eH a n c then eH b n c else if eH a n d > if eH a n c > eH a n c then eH a n c else eH a n c then eH a n d else if eH a n c > eH a n c then eH a n c else eH a n c then eH b n d
 else if eH b n c > if eH a n d > if eH a n c > eH a n c then eH a n c else eH a n c then eH a n d else if eH a n c > eH a n c then eH a n c else eH a n c then eH b n c else if eH a n d > if eH a n c > eH a n c then eH a n c else eH a n c then eH a n d else if eH a n c > eH a n c then eH a n c else eH a n c)))
 (K (Value.tuple #[Value.int IntKind.i64 0, Value.int IntKind.i64 0, Value.int IntKind.i64 5]))
 (K
 (Value.tuple
 #[Value.int IntKind.i64
 (if eL b n d < if eL b n c < if eL a n d < if eL a n c < eL a n c then eL a n c else eL a n c then eL a n d else if eL a n c < eL a n c then eL a n c else eL a n c then eL b n c else if eL a n d < if eL a n c < eL a n c then eL a n c else eL a n c then eL a n d else if eL a n c < eL a n c then eL a n c else eL a n c then eL b n d
 else if eL b n c < if eL a n d < if eL a n c < eL a n c then eL a n c else eL a n c then eL a n d else if eL a n c < eL a n c then eL a n c else eL a n c then eL b n c else if eL a n d < if eL a n c < eL a n c then eL a n c else eL a n c then eL a n d else if eL a n c < eL a n c then eL a n c else eL a n c),
 Value.int IntKind.i64
 (if eH b n d > if eH b n c > if eH a n d > if eH a n c > eH a n c then eH a n c else eH a n c then eH a n d else if eH a n c > eH a n c then eH a n c else eH a n c then eH b n c else if eH a n d > if eH a n c > eH a n c then eH a n c else eH a n c then eH a n d else if eH a n c > eH a n c then eH a n c else eH a n c then eH b n d
 else if eH b n c > if eH a n d > if eH a n c > eH a n c then eH a n c else eH a n c then eH a n d else if eH a n c > eH a n c then eH a n c else eH a n c then eH b n c else if eH a n d > if eH a n c > eH a n c then eH a n c else eH a n c then eH a n d else if eH a n c > eH a n c then eH a n c else eH a n c),
 Value.int IntKind.i64 0]))))))))))) := by kernel_rfl
end Go.Proofs.YtjdcicjhpegphaaGreat
/- Quotients of intervals, by the program: contracts. -/
namespace Go.Proofs.YtjdcicjhpegphaaGreat
open Go Go.Abs Go.RowKit
theorem xn_bound {x n : Int} (hx : Q31 x) (hn : Q40 n) : -2361183241434822606848 ≤ x * n ∧ x * n ≤ 2361183241434822606848 := by
  obtain ⟨x0, x1⟩ := hx
  obtain ⟨n0, n1⟩ := hn
  have h : (x * n).natAbs ≤ 2147483648 * 1099511627776 := by
    rw [Int.natAbs_mul]
    exact Nat.mul_le_mul (by omega) (by omega)
  omega
theorem fl_ce {x n d : Int} (hd : 0 < d) : flQ x n d ≤ ceQ x n d := by
  unfold flQ ceQ
  generalize x * n = p
  have h1 := Int.mul_ediv_self_le (x := p) (k := d) (by omega)
  have h2 := Int.mul_ediv_self_le (x := -p) (k := d) (by omega)
  have h3 : d * (p / d) ≤ d * (-(-p / d)) := by rw [Int.mul_neg]; omega
  exact Int.le_of_mul_le_mul_left h3 hd
variable {Φ : World → Prop} (hst : ∀ w w', Φ w → Below w.heap.size w w' → Φ w')
include hst
theorem s_Fe : Sound Tryz.prog Φ ΓFe :=
  Sound.cons (by kernel_rfl) (fun args p v h hp => by unfold sWProduct at h; split at h <;> cases h; exact c_wproduct hst _ _ hp.1 hp.2)
  (Sound.cons (by kernel_rfl) (fun args p v h hp => by unfold sWFloor at h; split at h <;> cases h; exact c_wfloor hst _ _ _ hp)
  (Sound.cons (by kernel_rfl) (fun args p v h hp => by unfold sWCeil at h; split at h <;> cases h; exact c_wceil hst _ _ _ hp) Sound.nil))
omit hst in
theorem pick_t {c : Prop} [Decidable c] {x y : Int} (h : c) : pick c x y = x := if_pos h
omit hst in
theorem pick_f {c : Prop} [Decidable c] {x y : Int} (h : ¬ c) : pick c x y = y := if_neg h
omit hst in
theorem gate_t {c : Prop} [Decidable c] {x : Int} (h : c) : gate c x = x := if_pos h
omit hst in
theorem gate_f {c : Prop} [Decidable c] {x : Int} (h : ¬ c) : gate c x = 0 := if_neg h
theorem c_fxenclose {x n d : Int} (hx : Q31 x) (hn : Q40 n) (hd : 0 < d) (hd1 : d ≤ 2147483648) : Ans Tryz.prog Φ 134 [num x, num n, num d] (trip (eL x n d) (eH x n d) (eE x n d)) := by
  refine fn_by hst (s_Fe hst) (vc_fxenclose x n d _) ?_
  have b := xn_bound hx hn
  have hF : F120 (x * n) := by unfold F120; omega
  have hW : WV (hiO (x * n)) (loO (x * n)) := by unfold WV hiO loO; omega
  have hv : val (hiO (x * n)) (loO (x * n)) = x * n := by unfold val hiO loO; omega
  have hd0 : ¬ d = 0 := by omega
  have e1 : quoI (x * n) d false = flQ x n d := by unfold quoI flQ; rw [if_neg (by decide), Int.fdiv_eq_ediv_of_nonneg _ (by omega)]
  have e2 : quoI (x * n) d true = ceQ x n d := by unfold quoI ceQ; rw [if_pos rfl, Int.fdiv_eq_ediv_of_nonneg _ (by omega)]
  rw [gate_t hF, gate_t hF, pick_t hF, hv, e1, e2, pick_t hW, pick_t hW, pick_f hd0, pick_f hd0]
  unfold Q31 at hx
  unfold Q40 at hn
  refine ⟨⟨by unfold I64; omega, by unfold I64; omega⟩, bcase_iff.mpr ⟨fun q => absurd q (by decide), fun _ => ⟨by unfold I64; omega, ?_⟩⟩⟩
  have ok1 : okQ (hiO (x * n)) (loO (x * n)) d false ↔ I64 (flQ x n d) := by unfold okQ; rw [hv, e1]; exact ⟨fun h => h.2.2, fun h => ⟨hW, hd0, h⟩⟩
  have ok2 : okQ (hiO (x * n)) (loO (x * n)) d true ↔ I64 (ceQ x n d) := by unfold okQ; rw [hv, e2]; exact ⟨fun h => h.2.2, fun h => ⟨hW, hd0, h⟩⟩
  unfold eL eH eE
  by_cases h1 : I64 (flQ x n d)
  · rw [pick_t h1, gate_t (ok1.mpr h1), gate_t h1]
    refine bcase_iff.mpr ⟨fun q => absurd q (by decide), fun _ => ⟨by unfold I64; omega, ?_⟩⟩
    by_cases h2 : I64 (ceQ x n d)
    · rw [pick_t h2, gate_t (ok2.mpr h2), gate_t ⟨h1, h2⟩, pick_t ⟨h1, h2⟩]
    · rw [pick_f h2, gate_f (fun h => h2 (ok2.mp h)), gate_f (fun h => h2 h.2), pick_f (fun h => h2 h.2)]
  · rw [pick_f h1, gate_f h1, gate_f (fun h => h1 h.1), pick_f (fun h => h1 h.1)]
    exact bcase_iff.mpr ⟨fun _ => rfl, fun q => absurd q (by decide)⟩
theorem c_fxvalid (a b : Int) : Ans Tryz.prog Φ 91 [wid a b] (.bool (decide (FixV a b))) := by
  refine fn_by hst Sound.nil (vc_fxvalid a b _) ?_
  unfold FixV
  refine bcase_iff.mpr ⟨fun p => bcase_iff.mpr ⟨fun q => ?_, fun q => ?_⟩, fun p => ?_⟩
  · have p := of_decide_eq_true p
    have q := of_decide_eq_true q
    exact congrArg Value.bool (decide_eq_decide.mpr ⟨fun h => ⟨p, q, h⟩, fun h => h.2.2⟩)
  · have q := of_decide_eq_false q
    exact congrArg Value.bool (decide_eq_false (fun h => q h.2.1)).symm
  · have p := of_decide_eq_false p
    exact congrArg Value.bool (decide_eq_false (fun h => p h.1)).symm
theorem c_fxboth (a b c d : Int) : Ans Tryz.prog Φ 86 [wid a b, wid c d] (.bool (decide (FixV a b ∧ FixV c d))) := by
  refine fn_by hst (Sound.cons (by kernel_rfl) (fun args p v h hp => by unfold sFxValid at h; split at h <;> cases h; exact c_fxvalid hst _ _) Sound.nil) (vc_fxboth a b c d _) ?_
  refine ⟨trivial, bcase_iff.mpr ⟨fun p => ⟨trivial, ?_⟩, fun p => ?_⟩⟩
  · have p := of_decide_eq_true p
    exact congrArg Value.bool (decide_eq_decide.mpr ⟨fun h => ⟨p, h⟩, fun h => h.2⟩)
  · have p := of_decide_eq_false p
    exact congrArg Value.bool (decide_eq_false (fun h => p h.1)).symm
theorem c_fxfactor (n : Int) : Ans Tryz.prog Φ 133 [num n] (.bool (decide (Q40 n))) := by
  refine fn_by hst Sound.nil (vc_fxfactor n _) ?_
  unfold Q40
  refine bcase_iff.mpr ⟨fun p => ?_, fun p => ?_⟩
  · have p := of_decide_eq_true p
    exact congrArg Value.bool (decide_eq_decide.mpr ⟨fun h => ⟨p, h⟩, fun h => h.2⟩)
  · have p := of_decide_eq_false p
    exact congrArg Value.bool (decide_eq_false (fun h => p h.1)).symm
theorem c_fxzero (a b : Int) : Ans Tryz.prog Φ 87 [wid a b] (.bool (decide (a ≤ 0 ∧ 0 ≤ b))) := by
  refine fn_by hst Sound.nil (vc_fxzero a b _) ?_
  refine bcase_iff.mpr ⟨fun p => ?_, fun p => ?_⟩
  · have p := of_decide_eq_true p
    exact congrArg Value.bool (decide_eq_decide.mpr ⟨fun h => ⟨p, h⟩, fun h => h.2⟩)
  · have p := of_decide_eq_false p
    exact congrArg Value.bool (decide_eq_false (fun h => p h.1)).symm
theorem s_Fq : Sound Tryz.prog Φ ΓFq :=
  Sound.cons (by kernel_rfl) (fun args p v h hp => by unfold sFxBoth at h; split at h <;> cases h; exact c_fxboth hst _ _ _ _)
  (Sound.cons (by kernel_rfl) (fun args p v h hp => by unfold sFxFactor at h; split at h <;> cases h; exact c_fxfactor hst _)
  (Sound.cons (by kernel_rfl) (fun args p v h hp => by unfold sFxZero at h; split at h <;> cases h; exact c_fxzero hst _ _)
  (Sound.cons (by kernel_rfl) (fun args p v h hp => by unfold sFxEnclose at h; split at h <;> cases h; exact c_fxenclose hst hp.1 hp.2.1 hp.2.2.1 hp.2.2.2) Sound.nil)))
def both (x n d : Int) : Prop := I64 (flQ x n d) ∧ I64 (ceQ x n d)
omit hst in
theorem e_yes {x n d : Int} (h : both x n d) : eE x n d = 0 ∧ eL x n d = flQ x n d ∧ eH x n d = ceQ x n d := ⟨if_pos h, if_pos h.1, if_pos h⟩
omit hst in
theorem e_no {x n d : Int} (h : ¬ both x n d) : eE x n d = 5 := if_neg h
omit hst in
theorem both_of {a b c d n : Int} (hc : 0 < c) (hcd : c ≤ d) (h : okF a b c d n) : both a n c ∧ both a n d ∧ both b n c ∧ both b n d := by
  have i1 := fl_ce (x := a) (n := n) hc
  have i2 := fl_ce (x := a) (n := n) (d := d) (by omega)
  have i3 := fl_ce (x := b) (n := n) hc
  have i4 := fl_ce (x := b) (n := n) (d := d) (by omega)
  unfold okF qL qH at h
  unfold both I64
  omega
omit hst in
theorem no_ok {a b c d n : Int} (h : ¬ okF a b c d n) : trip 0 0 5 = quoAns a b c d n := by
  unfold quoAns
  rw [gate_f h, gate_f h, pick_f h]
theorem c_fxquo {a b c d n : Int} (h1 : FixV a b) (h2 : FixV c d) (hc : 0 < c) (hn : Q40 n) : Ans Tryz.prog Φ 104 [wid a b, wid c d, num n] (quoAns a b c d n) := by
  refine fn_by hst (s_Fq hst) (vc_fxquo a b c d n _) ?_
  have hb : (!decide (FixV a b ∧ FixV c d)) = false := by rw [decide_eq_true ⟨h1, h2⟩]; rfl
  have hn' : (!decide (Q40 n)) = false := by rw [decide_eq_true hn]; rfl
  have hz : decide (c ≤ 0 ∧ 0 ≤ d) = false := decide_eq_false (by omega)
  have k1 := h1
  have k2 := h2
  unfold FixV at k1 k2
  have qa : Q31 a := by unfold Q31; omega
  have qb : Q31 b := by unfold Q31; omega
  have ok := both_of (a := a) (b := b) (n := n) hc k2.2.1
  have ne5 : ((5 : Int) != 0) = true := by decide
  have ne0 : ((0 : Int) != 0) = false := by decide
  rw [hb, hn', hz, bcase_false, bcase_false, bcase_false]
  refine ⟨trivial, trivial, trivial, ⟨qa, hn, hc, by omega⟩, ?_⟩
  by_cases b1 : both a n c
  · obtain ⟨e1, l1, u1⟩ := e_yes b1
    rw [e1, ne0, bcase_false]
    refine ⟨⟨qa, hn, by omega, k2.2.2⟩, ?_⟩
    by_cases b2 : both a n d
    · obtain ⟨e2, l2, u2⟩ := e_yes b2
      rw [e2, ne0, bcase_false]
      refine ⟨⟨qb, hn, hc, by omega⟩, ?_⟩
      by_cases b3 : both b n c
      · obtain ⟨e3, l3, u3⟩ := e_yes b3
        rw [e3, ne0, bcase_false]
        refine ⟨⟨qb, hn, by omega, k2.2.2⟩, ?_⟩
        by_cases b4 : both b n d
        · obtain ⟨e4, l4, u4⟩ := e_yes b4
          rw [e4, ne0, bcase_false]
          simp only [min_if, max_if, l1, l2, l3, l4, u1, u2, u3, u4]
          have i1 := fl_ce (x := a) (n := n) hc
          have i2 := fl_ce (x := a) (n := n) (d := d) (by omega)
          have i3 := fl_ce (x := b) (n := n) hc
          have i4 := fl_ce (x := b) (n := n) (d := d) (by omega)
          have hL : min (min (min (min (flQ a n c) (flQ a n c)) (flQ a n d)) (flQ b n c)) (flQ b n d) = qL a b c d n := by unfold qL; omega
          have hH : max (max (max (min (ceQ a n c) (ceQ a n c)) (ceQ a n d)) (ceQ b n c)) (ceQ b n d) = qH a b c d n := by unfold qH; omega
          have hLH : qL a b c d n ≤ qH a b c d n := by unfold qL qH; omega
          rw [hL, hH]
          refine ⟨trivial, bcase_iff.mpr ⟨fun q => ?_, fun q => ⟨trivial, bcase_iff.mpr ⟨fun r => ?_, fun r => ?_⟩⟩⟩⟩
          · refine no_ok (fun o => ?_)
            have q : ¬ Q40 (qL a b c d n) := by simpa using q
            apply q
            unfold okF at o
            unfold Q40
            omega
          · refine no_ok (fun o => ?_)
            have r : ¬ Q40 (qH a b c d n) := by simpa using r
            apply r
            unfold okF at o
            unfold Q40
            omega
          · have q : Q40 (qL a b c d n) := by simpa using q
            have r : Q40 (qH a b c d n) := by simpa using r
            have o : okF a b c d n := ⟨q.1, r.2⟩
            unfold quoAns
            rw [gate_t o, gate_t o, pick_t o]
        · rw [e_no b4, ne5, bcase_true]
          exact no_ok fun o => b4 (ok o).2.2.2
      · rw [e_no b3, ne5, bcase_true]
        exact no_ok fun o => b3 (ok o).2.2.1
    · rw [e_no b2, ne5, bcase_true]
      exact no_ok fun o => b2 (ok o).2.1
  · rw [e_no b1, ne5, bcase_true]
    exact no_ok fun o => b1 (ok o).1
end Go.Proofs.YtjdcicjhpegphaaGreat
/- Sums and products of intervals: what the functions answer. -/
namespace Go.Proofs.YtjdcicjhpegphaaGreat
open Go Go.Abs Go.RowKit
def N30 (x : Int) : Prop := -1073741824 ≤ x ∧ x ≤ 1073741824
def FixO (a b : Int) : Prop := -1073741824 ≤ a ∧ a ≤ b ∧ b ≤ 1073741824
theorem FixO.v {a b : Int} (h : FixO a b) : FixV a b := by unfold FixO at h; unfold FixV; omega
def mnP (a b c d : Int) : Int := min (min (min (a * c) (a * d)) (b * c)) (b * d)
def mxP (a b c d : Int) : Int := max (max (max (a * c) (a * d)) (b * c)) (b * d)
def muL (a b c d : Int) : Int := mnP a b c d / 1073741824
def muH (a b c d : Int) : Int := -(-mxP a b c d / 1073741824)
def Q62 (n : Int) : Prop := -4611686018427387904 ≤ n ∧ n ≤ 4611686018427387904
def OneD (d : Int) : Prop := d = 1073741824
def sFl : FSpec := fun | [.int .i64 n, .int .i64 d] => some (Q62 n ∧ OneD d, num (n / d)) | _ => none
def sCe : FSpec := fun | [.int .i64 n, .int .i64 d] => some (Q62 n ∧ OneD d, num (-(-n / d))) | _ => none
def sFit : FSpec := fun | [.int .i64 a, .int .i64 b] => some (FixV a b, pair (wid a b) (num 0)) | _ => none
abbrev fxOk (a b : Int) : Value := pair (wid a b) (num 0)
def sMulO (ml mh : Int → Int → Int → Int → Int) : FSpec := fun | [.agg ⟨[.int .i64 a, .int .i64 b]⟩, .agg ⟨[.int .i64 c, .int .i64 d]⟩] => some (FixO a b ∧ FixO c d, fxOk (ml a b c d) (mh a b c d)) | _ => none
def sAddO : FSpec := fun | [.agg ⟨[.int .i64 a, .int .i64 b]⟩, .agg ⟨[.int .i64 c, .int .i64 d]⟩] => some (FixO a b ∧ FixO c d, fxOk (a + c) (b + d)) | _ => none
def sSubO : FSpec := fun | [.agg ⟨[.int .i64 a, .int .i64 b]⟩, .agg ⟨[.int .i64 c, .int .i64 d]⟩] => some (FixO a b ∧ FixO c d, fxOk (a - d) (b - c)) | _ => none
def sNegO : FSpec := fun | [.agg ⟨[.int .i64 a, .int .i64 b]⟩] => some (FixV a b, fxOk (-b) (-a)) | _ => none
def ΓFm : List (FuncId × CSpec) := [(86, .v sFxBoth), (91, .v sFxValid), (88, .v sFl), (89, .v sCe), (90, .v sFit)]
def ΓFf : List (FuncId × CSpec) := [(88, .v sFl)]
end Go.Proofs.YtjdcicjhpegphaaGreat
/- Sums and products of intervals: what the functions ask. -/
namespace Go.Proofs.YtjdcicjhpegphaaGreat
open Go Go.Abs Go.RowKit
theorem vc_fxfloor (n d : Int) (K : Value → Prop) : callsX Tryz.prog ([]) (noAnn) 88 [num n, num d] K = (
 bcase (d == 0) False (bcase (d == 0) False (bcase (n.tmod d != 0) (bcase (!decide (n < 0) == decide (d < 0)) (K (Value.int IntKind.i64 (IntKind.i64.wrap (IntKind.i64.wrap (n.tdiv d) - 1)))) (K (Value.int IntKind.i64 (IntKind.i64.wrap (n.tdiv d))))) (K (Value.int IntKind.i64 (IntKind.i64.wrap (n.tdiv d))))))) := by kernel_rfl
theorem vc_fxceil (n d : Int) (K : Value → Prop) : callsX Tryz.prog (ΓFf) (noAnn) 89 [num n, num d] K = (
 (Q62 (IntKind.i64.wrap (0 - n)) ∧ OneD d) ∧ K (Value.int IntKind.i64 (IntKind.i64.wrap (0 - IntKind.i64.wrap (0 - n) / d)))) := by kernel_rfl
theorem vc_fxfit (a b : Int) (K : Value → Prop) : callsX Tryz.prog ([(91, .v sFxValid)]) (noAnn) 90 [num a, num b] K = (
 True ∧ bcase (!decide (FixV a b)) (K (Value.tuple #[Value.agg #[Value.int IntKind.i64 0, Value.int IntKind.i64 0], Value.int IntKind.i64 5])) (K (Value.tuple #[Value.agg #[Value.int IntKind.i64 a, Value.int IntKind.i64 b], Value.int IntKind.i64 0]))) := by kernel_rfl
theorem vc_fxmul (a b c d : Int) (K : Value → Prop) : callsX Tryz.prog (ΓFm) (noAnn) 84 [wid a b, wid c d] K = (
 True ∧
 bcase (!decide (FixV a b ∧ FixV c d)) (K (Value.tuple #[Value.agg #[Value.int IntKind.i64 0, Value.int IntKind.i64 0], Value.int IntKind.i64 1]))
 ((Q62
 (if IntKind.i64.wrap (b * d) < if IntKind.i64.wrap (b * c) < if IntKind.i64.wrap (a * d) < IntKind.i64.wrap (a * c) then IntKind.i64.wrap (a * d) else IntKind.i64.wrap (a * c) then IntKind.i64.wrap (b * c) else if IntKind.i64.wrap (a * d) < IntKind.i64.wrap (a * c) then IntKind.i64.wrap (a * d) else IntKind.i64.wrap (a * c) then IntKind.i64.wrap (b * d)
 else if IntKind.i64.wrap (b * c) < if IntKind.i64.wrap (a * d) < IntKind.i64.wrap (a * c) then IntKind.i64.wrap (a * d) else IntKind.i64.wrap (a * c) then IntKind.i64.wrap (b * c) else if IntKind.i64.wrap (a * d) < IntKind.i64.wrap (a * c) then IntKind.i64.wrap (a * d) else IntKind.i64.wrap (a * c)) ∧
 OneD 1073741824) ∧
 (Q62
 (if IntKind.i64.wrap (b * d) > if IntKind.i64.wrap (b * c) > if IntKind.i64.wrap (a * d) > IntKind.i64.wrap (a * c) then IntKind.i64.wrap (a * d) else IntKind.i64.wrap (a * c) then IntKind.i64.wrap (b * c) else if IntKind.i64.wrap (a * d) > IntKind.i64.wrap (a * c) then IntKind.i64.wrap (a * d) else IntKind.i64.wrap (a * c) then IntKind.i64.wrap (b * d)
 else if IntKind.i64.wrap (b * c) > if IntKind.i64.wrap (a * d) > IntKind.i64.wrap (a * c) then IntKind.i64.wrap (a * d) else IntKind.i64.wrap (a * c) then IntKind.i64.wrap (b * c) else if IntKind.i64.wrap (a * d) > IntKind.i64.wrap (a * c) then IntKind.i64.wrap (a * d) else IntKind.i64.wrap (a * c)) ∧
 OneD 1073741824) ∧
 FixV
 ((if IntKind.i64.wrap (b * d) < if IntKind.i64.wrap (b * c) < if IntKind.i64.wrap (a * d) < IntKind.i64.wrap (a * c) then IntKind.i64.wrap (a * d) else IntKind.i64.wrap (a * c) then IntKind.i64.wrap (b * c) else if IntKind.i64.wrap (a * d) < IntKind.i64.wrap (a * c) then IntKind.i64.wrap (a * d) else IntKind.i64.wrap (a * c) then IntKind.i64.wrap (b * d)
 else if IntKind.i64.wrap (b * c) < if IntKind.i64.wrap (a * d) < IntKind.i64.wrap (a * c) then IntKind.i64.wrap (a * d) else IntKind.i64.wrap (a * c) then IntKind.i64.wrap (b * c) else if IntKind.i64.wrap (a * d) < IntKind.i64.wrap (a * c) then IntKind.i64.wrap (a * d) else IntKind.i64.wrap (a * c)) /
 1073741824)
 (-((-if IntKind.i64.wrap (b * d) > if IntKind.i64.wrap (b * c) > if IntKind.i64.wrap (a * d) > IntKind.i64.wrap (a * c) then IntKind.i64.wrap (a * d) else IntKind.i64.wrap (a * c) then IntKind.i64.wrap (b * c) else if IntKind.i64.wrap (a * d) > IntKind.i64.wrap (a * c) then IntKind.i64.wrap (a * d) else IntKind.i64.wrap (a * c) then IntKind.i64.wrap (b * d)
 else if IntKind.i64.wrap (b * c) > if IntKind.i64.wrap (a * d) > IntKind.i64.wrap (a * c) then IntKind.i64.wrap (a * d) else IntKind.i64.wrap (a * c) then IntKind.i64.wrap (b * c) else if IntKind.i64.wrap (a * d) > IntKind.i64.wrap (a * c) then IntKind.i64.wrap (a * d) else IntKind.i64.wrap (a * c)) /
 1073741824)) ∧
 K
 (Value.tuple
 #[Value.agg
 #[Value.int IntKind.i64
 ((if IntKind.i64.wrap (b * d) < if IntKind.i64.wrap (b * c) < if IntKind.i64.wrap (a * d) < IntKind.i64.wrap (a * c) then IntKind.i64.wrap (a * d) else IntKind.i64.wrap (a * c) then IntKind.i64.wrap (b * c) else if IntKind.i64.wrap (a * d) < IntKind.i64.wrap (a * c) then IntKind.i64.wrap (a * d) else IntKind.i64.wrap (a * c) then IntKind.i64.wrap (b * d)
 else if IntKind.i64.wrap (b * c) < if IntKind.i64.wrap (a * d) < IntKind.i64.wrap (a * c) then IntKind.i64.wrap (a * d) else IntKind.i64.wrap (a * c) then IntKind.i64.wrap (b * c) else if IntKind.i64.wrap (a * d) < IntKind.i64.wrap (a * c) then IntKind.i64.wrap (a * d) else IntKind.i64.wrap (a * c)) /
 1073741824),
 Value.int IntKind.i64
 (-((-if IntKind.i64.wrap (b * d) > if IntKind.i64.wrap (b * c) > if IntKind.i64.wrap (a * d) > IntKind.i64.wrap (a * c) then IntKind.i64.wrap (a * d) else IntKind.i64.wrap (a * c) then IntKind.i64.wrap (b * c) else if IntKind.i64.wrap (a * d) > IntKind.i64.wrap (a * c) then IntKind.i64.wrap (a * d) else IntKind.i64.wrap (a * c) then IntKind.i64.wrap (b * d)
 else if IntKind.i64.wrap (b * c) > if IntKind.i64.wrap (a * d) > IntKind.i64.wrap (a * c) then IntKind.i64.wrap (a * d) else IntKind.i64.wrap (a * c) then IntKind.i64.wrap (b * c) else if IntKind.i64.wrap (a * d) > IntKind.i64.wrap (a * c) then IntKind.i64.wrap (a * d) else IntKind.i64.wrap (a * c)) /
 1073741824))],
 Value.int IntKind.i64 0]))) := by kernel_rfl
theorem vc_fxadd (a b c d : Int) (K : Value → Prop) : callsX Tryz.prog (ΓFm) (noAnn) 127 [wid a b, wid c d] K = (
 True ∧ bcase (!decide (FixV a b ∧ FixV c d)) (K (Value.tuple #[Value.agg #[Value.int IntKind.i64 0, Value.int IntKind.i64 0], Value.int IntKind.i64 1])) (FixV (IntKind.i64.wrap (a + c)) (IntKind.i64.wrap (b + d)) ∧ K (Value.tuple #[Value.agg #[Value.int IntKind.i64 (IntKind.i64.wrap (a + c)), Value.int IntKind.i64 (IntKind.i64.wrap (b + d))], Value.int IntKind.i64 0]))) := by kernel_rfl
theorem vc_fxsub (a b c d : Int) (K : Value → Prop) : callsX Tryz.prog (ΓFm) (noAnn) 121 [wid a b, wid c d] K = (
 True ∧ bcase (!decide (FixV a b ∧ FixV c d)) (K (Value.tuple #[Value.agg #[Value.int IntKind.i64 0, Value.int IntKind.i64 0], Value.int IntKind.i64 1])) (FixV (IntKind.i64.wrap (a - d)) (IntKind.i64.wrap (b - c)) ∧ K (Value.tuple #[Value.agg #[Value.int IntKind.i64 (IntKind.i64.wrap (a - d)), Value.int IntKind.i64 (IntKind.i64.wrap (b - c))], Value.int IntKind.i64 0]))) := by kernel_rfl
theorem vc_fxneg (a b : Int) (K : Value → Prop) : callsX Tryz.prog (ΓFm) (noAnn) 146 [wid a b] K = (
 True ∧ bcase (!decide (FixV a b)) (K (Value.tuple #[Value.agg #[Value.int IntKind.i64 0, Value.int IntKind.i64 0], Value.int IntKind.i64 1])) (K (Value.tuple #[Value.agg #[Value.int IntKind.i64 (IntKind.i64.wrap (0 - b)), Value.int IntKind.i64 (IntKind.i64.wrap (0 - a))], Value.int IntKind.i64 0]))) := by kernel_rfl
end Go.Proofs.YtjdcicjhpegphaaGreat
/- Sums and products of intervals: contracts. -/
namespace Go.Proofs.YtjdcicjhpegphaaGreat
open Go Go.Abs Go.RowKit
theorem mul_30 {x y : Int} (hx : N30 x) (hy : N30 y) : -1152921504606846976 ≤ x * y ∧ x * y ≤ 1152921504606846976 := by
  obtain ⟨x0, x1⟩ := hx
  obtain ⟨y0, y1⟩ := hy
  have h : (x * y).natAbs ≤ 1073741824 * 1073741824 := by
    rw [Int.natAbs_mul]
    exact Nat.mul_le_mul (by omega) (by omega)
  omega
theorem mn_mx {a b c d : Int} (h : FixO a b) (k : FixO c d) : (-1152921504606846976 ≤ mnP a b c d ∧ mnP a b c d ≤ mxP a b c d ∧ mxP a b c d ≤ 1152921504606846976) ∧ (∀ x, x = a * c ∨ x = a * d ∨ x = b * c ∨ x = b * d → mnP a b c d ≤ x ∧ x ≤ mxP a b c d) := by
  unfold FixO at h k
  have h1 := mul_30 (x := a) (y := c) (by unfold N30; omega) (by unfold N30; omega)
  have h2 := mul_30 (x := a) (y := d) (by unfold N30; omega) (by unfold N30; omega)
  have h3 := mul_30 (x := b) (y := c) (by unfold N30; omega) (by unfold N30; omega)
  have h4 := mul_30 (x := b) (y := d) (by unfold N30; omega) (by unfold N30; omega)
  unfold mnP mxP
  generalize a * c = p at *
  generalize a * d = q at *
  generalize b * c = r at *
  generalize b * d = s at *
  refine ⟨?_, fun x hx => ?_⟩ <;> omega
theorem mu_ok {a b c d : Int} (h : FixO a b) (k : FixO c d) : FixO (muL a b c d) (muH a b c d) := by
  have h := (mn_mx h k).1
  unfold FixO muL muH
  omega
variable {Φ : World → Prop} (hst : ∀ w w', Φ w → Below w.heap.size w w' → Φ w')
include hst
theorem c_fxfloor {n d : Int} (h : Q62 n ∧ OneD d) : Ans Tryz.prog Φ 88 [num n, num d] (num (n / d)) := by
  obtain ⟨h, k⟩ := h
  unfold OneD at k
  subst k
  refine fn_by hst Sound.nil (vc_fxfloor n 1073741824 _) ?_
  unfold Q62 at h
  have e1 := Int.mul_tdiv_add_tmod n 1073741824
  have e2 : n.tmod 1073741824 = n % 1073741824 - (if 0 ≤ n ∨ (1073741824 : Int) ∣ n then 0 else 1073741824) := by rw [Int.tmod_eq_emod]; split <;> rfl
  refine bcase_iff.mpr ⟨fun q => absurd q (by decide), fun _ => bcase_iff.mpr ⟨fun q => absurd q (by decide), fun _ => ?_⟩⟩
  have hd : decide ((1073741824 : Int) < 0) = false := rfl
  rw [hd]
  refine bcase_iff.mpr ⟨fun q => bcase_iff.mpr ⟨fun r => ?_, fun r => ?_⟩, fun q => ?_⟩
  · have q : n.tmod 1073741824 ≠ 0 := by simpa using q
    have r : n < 0 := by simpa using r
    rw [if_neg (by omega)] at e2
    rw [wrap_in (n := n.tdiv 1073741824) (by omega), wrap_in (by omega)]
    exact congrArg (Value.int .i64) (by omega)
  · have q : n.tmod 1073741824 ≠ 0 := by simpa using q
    have r : ¬ n < 0 := by simpa using r
    rw [if_pos (by omega)] at e2
    rw [wrap_in (n := n.tdiv 1073741824) (by omega)]
    exact congrArg (Value.int .i64) (by omega)
  · have q : n.tmod 1073741824 = 0 := by simpa using q
    rw [wrap_in (n := n.tdiv 1073741824) (by omega)]
    exact congrArg (Value.int .i64) (by omega)
theorem s_Ff : Sound Tryz.prog Φ ΓFf := Sound.cons (by kernel_rfl) (fun args p v h hp => by unfold sFl at h; split at h <;> cases h; exact c_fxfloor hst hp) Sound.nil
theorem c_fxceil {n d : Int} (h : Q62 n ∧ OneD d) : Ans Tryz.prog Φ 89 [num n, num d] (num (-(-n / d))) := by
  refine fn_by hst (s_Ff hst) (vc_fxceil n d _) ?_
  obtain ⟨h, k⟩ := h
  unfold OneD at k
  subst k
  unfold Q62 at h
  rw [wrap_in (n := 0 - n) (by omega), wrap_in (by omega)]
  exact ⟨⟨by unfold Q62; omega, rfl⟩, congrArg (Value.int .i64) (by omega)⟩
theorem c_fxfit {a b : Int} (h : FixV a b) : Ans Tryz.prog Φ 90 [num a, num b] (pair (wid a b) (num 0)) := by
  refine fn_by hst (Sound.cons (by kernel_rfl) (fun args p v hh hp => by unfold sFxValid at hh; split at hh <;> cases hh; exact c_fxvalid hst _ _) Sound.nil) (vc_fxfit a b _) ?_
  refine ⟨trivial, bcase_iff.mpr ⟨fun q => ?_, fun q => rfl⟩⟩
  rw [decide_eq_true h] at q
  cases q
theorem s_Fm : Sound Tryz.prog Φ ΓFm :=
  Sound.cons (by kernel_rfl) (fun args p v h hp => by unfold sFxBoth at h; split at h <;> cases h; exact c_fxboth hst _ _ _ _)
  (Sound.cons (by kernel_rfl) (fun args p v h hp => by unfold sFxValid at h; split at h <;> cases h; exact c_fxvalid hst _ _)
  (Sound.cons (by kernel_rfl) (fun args p v h hp => by unfold sFl at h; split at h <;> cases h; exact c_fxfloor hst hp)
  (Sound.cons (by kernel_rfl) (fun args p v h hp => by unfold sCe at h; split at h <;> cases h; exact c_fxceil hst hp)
  (Sound.cons (by kernel_rfl) (fun args p v h hp => by unfold sFit at h; split at h <;> cases h; exact c_fxfit hst hp) Sound.nil))))
omit hst in
theorem min_lt (x y : Int) : (if y < x then y else x) = min x y := by rw [Int.min_def]; split <;> split <;> omega
omit hst in
theorem max_gt (x y : Int) : (if y > x then y else x) = max x y := by rw [Int.max_def]; split <;> split <;> omega
theorem c_fxmul {a b c d : Int} (h : FixO a b ∧ FixO c d) : Ans Tryz.prog Φ 84 [wid a b, wid c d] (fxOk (muL a b c d) (muH a b c d)) := by
  refine fn_by hst (s_Fm hst) (vc_fxmul a b c d _) ?_
  have ho := mu_ok h.1 h.2
  have hm := (mn_mx h.1 h.2).1
  have hv := h.1.v
  have kv := h.2.v
  have h1 := h.1
  have h2 := h.2
  unfold FixO at h1 h2
  rw [wrap_in (n := a * c) (by have := mul_30 (x := a) (y := c) (by unfold N30; omega) (by unfold N30; omega); omega), wrap_in (n := a * d) (by have := mul_30 (x := a) (y := d) (by unfold N30; omega) (by unfold N30; omega); omega), wrap_in (n := b * c) (by have := mul_30 (x := b) (y := c) (by unfold N30; omega) (by unfold N30; omega); omega), wrap_in (n := b * d) (by have := mul_30 (x := b) (y := d) (by unfold N30; omega) (by unfold N30; omega); omega)]
  simp only [min_lt, max_gt]
  refine ⟨trivial, bcase_iff.mpr ⟨fun q => ?_, fun q => ⟨⟨?_, rfl⟩, ⟨?_, rfl⟩, ?_, rfl⟩⟩⟩
  · rw [decide_eq_true (And.intro hv kv)] at q
    cases q
  · show Q62 (mnP a b c d)
    unfold Q62; omega
  · show Q62 (mxP a b c d)
    unfold Q62; omega
  · exact ho.v
theorem c_fxadd {a b c d : Int} (h : FixO a b ∧ FixO c d) : Ans Tryz.prog Φ 127 [wid a b, wid c d] (fxOk (a + c) (b + d)) := by
  refine fn_by hst (s_Fm hst) (vc_fxadd a b c d _) ?_
  have h1 := h.1
  have h2 := h.2
  unfold FixO at h1 h2
  rw [wrap_in (n := a + c) (by omega), wrap_in (n := b + d) (by omega)]
  refine ⟨trivial, bcase_iff.mpr ⟨fun q => ?_, fun q => ⟨?_, rfl⟩⟩⟩
  · rw [decide_eq_true (And.intro h.1.v h.2.v)] at q
    cases q
  · unfold FixV; omega
theorem c_fxsub {a b c d : Int} (h : FixO a b ∧ FixO c d) : Ans Tryz.prog Φ 121 [wid a b, wid c d] (fxOk (a - d) (b - c)) := by
  refine fn_by hst (s_Fm hst) (vc_fxsub a b c d _) ?_
  have h1 := h.1
  have h2 := h.2
  unfold FixO at h1 h2
  rw [wrap_in (n := a - d) (by omega), wrap_in (n := b - c) (by omega)]
  refine ⟨trivial, bcase_iff.mpr ⟨fun q => ?_, fun q => ⟨?_, rfl⟩⟩⟩
  · rw [decide_eq_true (And.intro h.1.v h.2.v)] at q
    cases q
  · unfold FixV; omega
theorem c_fxneg {a b : Int} (h : FixV a b) : Ans Tryz.prog Φ 146 [wid a b] (fxOk (-b) (-a)) := by
  refine fn_by hst (s_Fm hst) (vc_fxneg a b _) ?_
  have h1 := h
  unfold FixV at h1
  rw [wrap_in (n := 0 - b) (by omega), wrap_in (n := 0 - a) (by omega), Int.zero_sub, Int.zero_sub]
  refine ⟨trivial, bcase_iff.mpr ⟨fun q => ?_, fun q => rfl⟩⟩
  rw [decide_eq_true h] at q
  cases q
end Go.Proofs.YtjdcicjhpegphaaGreat
/- Arcs, points and places: what the functions answer. -/
namespace Go.Proofs.YtjdcicjhpegphaaGreat
open Go Go.Abs Go.RowKit
def wrI (n : Int) : Int := n % 21600000
def sgI (n : Int) : Int := if 10800000 ≤ n % 21600000 then n % 21600000 - 21600000 else n % 21600000
def LatV (a b : Int) : Prop := a ≤ b ∧ -5400000 ≤ a ∧ b ≤ 5400000
instance (a b : Int) : Decidable (LatV a b) := by unfold LatV; infer_instance
def LonP (c d : Int) : Prop := (c = -10800000 ∧ d = 10800000) ∨ (-10800000 ≤ c ∧ c < 10800000 ∧ c ≤ d ∧ IntKind.i64.wrap (d - c) < 21600000)
instance (c d : Int) : Decidable (LonP c d) := by unfold LonP; infer_instance
def PtV (a b : Int) : Prop := -5400000 ≤ a ∧ a ≤ 5400000 ∧ -10800000 ≤ b ∧ b < 10800000
instance (a b : Int) : Decidable (PtV a b) := by unfold PtV; infer_instance
abbrev plc (a b c d : Int) : Value := .agg ⟨[.int .i64 a, .int .i64 b, .int .i64 c, .int .i64 d]⟩
def sEvery : FSpec := fun | [] => some (True, wid (-10800000) 10800000) | _ => none
def allB (a b : Int) : Bool := a == -10800000 && (b == 10800000 && true)
def sAllB : FSpec := fun | [.agg ⟨[.int .i64 a, .int .i64 b]⟩] => some (True, .bool (allB a b)) | _ => none
def sAnValid : FSpec := fun | [.agg ⟨[.int .i64 a, .int .i64 b]⟩] => some (True, .bool (decide (ArcV a b))) | _ => none
def sAnWrap : FSpec := fun | [.int .i64 n] => some (True, num (wrI n)) | _ => none
def SbOk (a b c d : Int) : Prop := ArcV a b ∧ ArcV c d ∧ ArcV (a - d) (b - c)
def sAnSub : FSpec := fun | [.agg ⟨[.int .i64 a, .int .i64 b]⟩, .agg ⟨[.int .i64 c, .int .i64 d]⟩] => some (SbOk a b c d, pair (wid (a - d) (b - c)) (num 0)) | _ => none
def sLatV : FSpec := fun | [.agg ⟨[.int .i64 a, .int .i64 b]⟩] => some (True, .bool (decide (LatV a b))) | _ => none
def sLonP : FSpec := fun | [.agg ⟨[.int .i64 a, .int .i64 b]⟩] => some (True, .bool (decide (LonP a b))) | _ => none
def sPtV : FSpec := fun | [.agg ⟨[.int .i64 a, .int .i64 b]⟩] => some (True, .bool (decide (PtV a b))) | _ => none
def sPlV : FSpec := fun | [.agg ⟨[.int .i64 a, .int .i64 b, .int .i64 c, .int .i64 d]⟩] => some (True, .bool (decide (LatV a b ∧ LonP c d))) | _ => none
def ΓAw : List (FuncId × CSpec) := [(52, .v sAnWrap), (26, .v sAnValid)]
def ΓPv : List (FuncId × CSpec) := [(96, .v sLatV), (97, .v sLonP)]
def ΓEv : List (FuncId × CSpec) := [(150, .v sEvery)]
def ΓAl : List (FuncId × CSpec) := [(129, .v sAllB)]
end Go.Proofs.YtjdcicjhpegphaaGreat
/- Arcs, points and places: what the functions ask. -/
namespace Go.Proofs.YtjdcicjhpegphaaGreat
open Go Go.Abs Go.RowKit
theorem vc_anvalid (a b : Int) (K : Value → Prop) : callsX Tryz.prog ([]) (noAnn) 26 [wid a b] K = (
 bcase (decide (a ≤ b)) (bcase (decide (a ≥ -1099511627776)) (bcase (decide (a ≤ 1099511627776)) (bcase (decide (b ≥ -1099511627776)) (K (Value.bool (decide (b ≤ 1099511627776)))) (K (Value.bool false))) (K (Value.bool false))) (K (Value.bool false))) (K (Value.bool false))) := by kernel_rfl
theorem vc_anwrap (n : Int) (K : Value → Prop) : callsX Tryz.prog ([]) (noAnn) 52 [num n] K = (
 bcase (decide (n.tmod 21600000 < 0)) (K (Value.int IntKind.i64 (IntKind.i64.wrap (n.tmod 21600000 + 21600000)))) (K (Value.int IntKind.i64 (n.tmod 21600000)))) := by kernel_rfl
theorem vc_ansigned (n : Int) (K : Value → Prop) : callsX Tryz.prog (ΓAw) (noAnn) 63 [num n] K = (
 True ∧ bcase (decide (wrI n ≥ 10800000)) (K (Value.int IntKind.i64 (IntKind.i64.wrap (wrI n - 21600000)))) (K (Value.int IntKind.i64 (wrI n)))) := by kernel_rfl
theorem vc_ansub (a b c d : Int) (K : Value → Prop) : callsX Tryz.prog (ΓAw) (noAnn) 68 [wid a b, wid c d] K = (
 True ∧
 bcase (!decide (ArcV c d)) (K (Value.tuple #[Value.agg #[Value.int IntKind.i64 0, Value.int IntKind.i64 0], Value.int IntKind.i64 1]))
 (bcase (decide (IntKind.i64.wrap (0 - d) ≥ -1099511627776))
 (bcase (!decide (IntKind.i64.wrap (0 - d) ≤ 1099511627776)) (K (Value.tuple #[Value.agg #[Value.int IntKind.i64 0, Value.int IntKind.i64 0], Value.int IntKind.i64 5]))
 (bcase (decide (IntKind.i64.wrap (0 - c) ≥ -1099511627776))
 (bcase (!decide (IntKind.i64.wrap (0 - c) ≤ 1099511627776)) (K (Value.tuple #[Value.agg #[Value.int IntKind.i64 0, Value.int IntKind.i64 0], Value.int IntKind.i64 5]))
 (True ∧
 bcase (!decide (ArcV a b)) (K (Value.tuple #[Value.agg #[Value.int IntKind.i64 0, Value.int IntKind.i64 0], Value.int IntKind.i64 1]))
 (True ∧
 bcase (!decide (ArcV (IntKind.i64.wrap (0 - d)) (IntKind.i64.wrap (0 - c)))) (K (Value.tuple #[Value.agg #[Value.int IntKind.i64 0, Value.int IntKind.i64 0], Value.int IntKind.i64 1]))
 (bcase (decide (IntKind.i64.wrap (a + IntKind.i64.wrap (0 - d)) ≥ -1099511627776))
 (bcase (!decide (IntKind.i64.wrap (a + IntKind.i64.wrap (0 - d)) ≤ 1099511627776)) (K (Value.tuple #[Value.agg #[Value.int IntKind.i64 0, Value.int IntKind.i64 0], Value.int IntKind.i64 5]))
 (bcase (decide (IntKind.i64.wrap (b + IntKind.i64.wrap (0 - c)) ≥ -1099511627776))
 (bcase (!decide (IntKind.i64.wrap (b + IntKind.i64.wrap (0 - c)) ≤ 1099511627776)) (K (Value.tuple #[Value.agg #[Value.int IntKind.i64 0, Value.int IntKind.i64 0], Value.int IntKind.i64 5])) (K (Value.tuple #[Value.agg #[Value.int IntKind.i64 (IntKind.i64.wrap (a + IntKind.i64.wrap (0 - d))), Value.int IntKind.i64 (IntKind.i64.wrap (b + IntKind.i64.wrap (0 - c)))], Value.int IntKind.i64 0])))
 (K (Value.tuple #[Value.agg #[Value.int IntKind.i64 0, Value.int IntKind.i64 0], Value.int IntKind.i64 5]))))
 (K (Value.tuple #[Value.agg #[Value.int IntKind.i64 0, Value.int IntKind.i64 0], Value.int IntKind.i64 5]))))))
 (K (Value.tuple #[Value.agg #[Value.int IntKind.i64 0, Value.int IntKind.i64 0], Value.int IntKind.i64 5]))))
 (K (Value.tuple #[Value.agg #[Value.int IntKind.i64 0, Value.int IntKind.i64 0], Value.int IntKind.i64 5])))) := by kernel_rfl
theorem vc_pllat (a b : Int) (K : Value → Prop) : callsX Tryz.prog ([]) (noAnn) 96 [wid a b] K = (
 bcase (decide (a ≤ b)) (bcase (decide (a ≥ -5400000)) (K (Value.bool (decide (b ≤ 5400000)))) (K (Value.bool false))) (K (Value.bool false))) := by kernel_rfl
theorem vc_plevery  (K : Value → Prop) : callsX Tryz.prog ([]) (noAnn) 150 [] K = (
 K (Value.agg #[Value.int IntKind.i64 (-10800000), Value.int IntKind.i64 10800000])) := by kernel_rfl
theorem vc_plall (a b : Int) (K : Value → Prop) : callsX Tryz.prog (ΓEv) (noAnn) 129 [wid a b] K = (
 True ∧ K (Value.bool (a == -10800000 && (b == 10800000 && true)))) := by kernel_rfl
theorem vc_pllon (a b : Int) (K : Value → Prop) : callsX Tryz.prog (ΓAl) (noAnn) 97 [wid a b] K = (
 True ∧ bcase (allB a b) (K (Value.bool true)) (bcase (decide (a ≥ -10800000)) (bcase (decide (a < 10800000)) (bcase (decide (a ≤ b)) (K (Value.bool (decide (IntKind.i64.wrap (b - a) < 21600000)))) (K (Value.bool false))) (K (Value.bool false))) (K (Value.bool false)))) := by kernel_rfl
theorem vc_plvalid (a b c d : Int) (K : Value → Prop) : callsX Tryz.prog (ΓPv) (noAnn) 58 [plc a b c d] K = (
 True ∧ bcase (decide (LatV a b)) (True ∧ K (Value.bool (decide (LonP c d)))) (K (Value.bool false))) := by kernel_rfl
theorem vc_plvalidpoint (a b : Int) (K : Value → Prop) : callsX Tryz.prog ([]) (noAnn) 41 [wid a b] K = (
 bcase (decide (a ≥ -5400000)) (bcase (decide (a ≤ 5400000)) (bcase (decide (b ≥ -10800000)) (K (Value.bool (decide (b < 10800000)))) (K (Value.bool false))) (K (Value.bool false))) (K (Value.bool false))) := by kernel_rfl
theorem vc_r8validpoint (a b : Int) (K : Value → Prop) : callsX Tryz.prog ([]) (noAnn) 29 [wid a b] K = (
 bcase (decide (a ≥ -5400000)) (bcase (decide (a ≤ 5400000)) (bcase (decide (b ≥ -10800000)) (K (Value.bool (decide (b < 10800000)))) (K (Value.bool false))) (K (Value.bool false))) (K (Value.bool false))) := by kernel_rfl
end Go.Proofs.YtjdcicjhpegphaaGreat
/- Arcs, points and places: contracts. -/
namespace Go.Proofs.YtjdcicjhpegphaaGreat
open Go Go.Abs Go.RowKit
theorem bo_yes {p : Prop} [Decidable p] (h : p) : Value.bool true = .bool (decide p) := by rw [decide_eq_true h]
theorem bo_no {p : Prop} [Decidable p] (h : ¬ p) : Value.bool false = .bool (decide p) := by rw [decide_eq_false h]
theorem bo_iff {p q : Prop} [Decidable p] [Decidable q] (h : p ↔ q) : Value.bool (decide p) = .bool (decide q) := by rw [decide_eq_decide.mpr h]
theorem tm_case (n : Int) : (n.tmod 21600000 < 0 ∧ n.tmod 21600000 + 21600000 = n % 21600000) ∨ (¬ n.tmod 21600000 < 0 ∧ n.tmod 21600000 = n % 21600000) := by
  have h1 := Int.emod_nonneg n (b := 21600000) (by omega)
  have h2 := Int.emod_lt_of_pos n (b := 21600000) (by omega)
  rw [Int.tmod_eq_emod]
  split <;> omega
variable {Φ : World → Prop} (hst : ∀ w w', Φ w → Below w.heap.size w w' → Φ w')
include hst
theorem c_anvalid (a b : Int) : Ans Tryz.prog Φ 26 [wid a b] (.bool (decide (ArcV a b))) := by
  refine fn_by hst Sound.nil (vc_anvalid a b _) ?_
  refine bcase_iff.mpr ⟨fun p => bcase_iff.mpr ⟨fun q => bcase_iff.mpr ⟨fun r => bcase_iff.mpr ⟨fun s => ?_, fun s => ?_⟩, fun r => ?_⟩, fun q => ?_⟩, fun p => ?_⟩
  all_goals (try simp only [decide_eq_true_eq, decide_eq_false_iff_not] at *)
  · exact bo_iff (by unfold ArcV; omega)
  all_goals exact bo_no (by unfold ArcV; omega)
theorem c_anwrap (n : Int) : Ans Tryz.prog Φ 52 [num n] (num (wrI n)) := by
  refine fn_by hst Sound.nil (vc_anwrap n _) ?_
  unfold wrI
  have m0 : 0 ≤ n % 21600000 ∧ n % 21600000 < 21600000 := by omega
  refine bcase_iff.mpr ⟨fun q => ?_, fun q => ?_⟩
  · have q := of_decide_eq_true q
    rcases tm_case n with ⟨_, e⟩ | ⟨h, _⟩
    · rw [e, wrap_in (by omega)]
    · exact absurd q h
  · have q := of_decide_eq_false q
    rcases tm_case n with ⟨h, _⟩ | ⟨_, e⟩
    · exact absurd h q
    · rw [e]
theorem s_Aw : Sound Tryz.prog Φ ΓAw :=
  Sound.cons (by kernel_rfl) (fun args p v h hp => by unfold sAnWrap at h; split at h <;> cases h; exact c_anwrap hst _)
  (Sound.cons (by kernel_rfl) (fun args p v h hp => by unfold sAnValid at h; split at h <;> cases h; exact c_anvalid hst _ _) Sound.nil)
theorem c_ansigned (n : Int) : Ans Tryz.prog Φ 63 [num n] (num (sgI n)) := by
  refine fn_by hst (s_Aw hst) (vc_ansigned n _) ?_
  unfold wrI sgI
  refine ⟨trivial, bcase_iff.mpr ⟨fun q => ?_, fun q => ?_⟩⟩
  · have q := of_decide_eq_true q
    rw [if_pos q, wrap_in (by omega)]
  · have q := of_decide_eq_false q
    rw [if_neg q]
theorem c_ansub {a b c d : Int} (h : SbOk a b c d) : Ans Tryz.prog Φ 68 [wid a b, wid c d] (pair (wid (a - d) (b - c)) (num 0)) := by
  refine fn_by hst (s_Aw hst) (vc_ansub a b c d _) ?_
  obtain ⟨h1, h2, h3⟩ := h
  have e1 := decide_eq_true h1
  have e2 := decide_eq_true h2
  have h4 : ArcV (0 - d) (0 - c) := by unfold ArcV at *; omega
  have e4 := decide_eq_true h4
  have g1 := h1
  have g2 := h2
  have g3 := h3
  unfold ArcV at g1 g2 g3
  rw [wrap_in (n := 0 - d) (by omega), wrap_in (n := 0 - c) (by omega), wrap_in (n := a + (0 - d)) (by omega), wrap_in (n := b + (0 - c)) (by omega), e1, e2, e4]
  rw [decide_eq_true (p := 0 - d ≥ -1099511627776) (by omega), decide_eq_true (p := 0 - d ≤ 1099511627776) (by omega), decide_eq_true (p := 0 - c ≥ -1099511627776) (by omega), decide_eq_true (p := 0 - c ≤ 1099511627776) (by omega), decide_eq_true (p := a + (0 - d) ≥ -1099511627776) (by omega), decide_eq_true (p := a + (0 - d) ≤ 1099511627776) (by omega), decide_eq_true (p := b + (0 - c) ≥ -1099511627776) (by omega), decide_eq_true (p := b + (0 - c) ≤ 1099511627776) (by omega)]
  refine ⟨trivial, trivial, trivial, ?_⟩
  show Value.tuple #[wid (a + (0 - d)) (b + (0 - c)), num 0] = _
  rw [show a + (0 - d) = a - d by omega, show b + (0 - c) = b - c by omega]
theorem c_pllat (a b : Int) : Ans Tryz.prog Φ 96 [wid a b] (.bool (decide (LatV a b))) := by
  refine fn_by hst Sound.nil (vc_pllat a b _) ?_
  refine bcase_iff.mpr ⟨fun p => bcase_iff.mpr ⟨fun q => ?_, fun q => ?_⟩, fun p => ?_⟩
  all_goals (try simp only [decide_eq_true_eq, decide_eq_false_iff_not] at *)
  · exact bo_iff (by unfold LatV; omega)
  all_goals exact bo_no (by unfold LatV; omega)
theorem c_plevery : Ans Tryz.prog Φ 150 [] (wid (-10800000) 10800000) := fn_by hst Sound.nil (vc_plevery _) rfl
theorem c_plall (a b : Int) : Ans Tryz.prog Φ 129 [wid a b] (.bool (allB a b)) :=
  fn_by hst (Sound.cons (by kernel_rfl) (fun args p v h hp => by unfold sEvery at h; split at h <;> cases h; exact c_plevery hst) Sound.nil) (vc_plall a b _) ⟨trivial, rfl⟩
omit hst in
theorem all_iff (a b : Int) : allB a b = true ↔ a = -10800000 ∧ b = 10800000 := by unfold allB; simp
theorem c_pllon (a b : Int) : Ans Tryz.prog Φ 97 [wid a b] (.bool (decide (LonP a b))) := by
  refine fn_by hst (Sound.cons (by kernel_rfl) (fun args p v h hp => by unfold sAllB at h; split at h <;> cases h; exact c_plall hst _ _) Sound.nil) (vc_pllon a b _) ?_
  refine ⟨trivial, bcase_iff.mpr ⟨fun p => ?_, fun p => bcase_iff.mpr ⟨fun q => bcase_iff.mpr ⟨fun r => bcase_iff.mpr ⟨fun s => ?_, fun s => ?_⟩, fun r => ?_⟩, fun q => ?_⟩⟩⟩
  · exact bo_yes (.inl ((all_iff a b).mp p))
  all_goals have p : ¬ (a = -10800000 ∧ b = 10800000) := fun e => by rw [(all_iff a b).mpr e] at p; cases p
  all_goals (try simp only [decide_eq_true_eq, decide_eq_false_iff_not] at *)
  · exact bo_iff (by unfold LonP; omega)
  all_goals exact bo_no (by unfold LonP; omega)
theorem c_plvalid (a b c d : Int) : Ans Tryz.prog Φ 58 [plc a b c d] (.bool (decide (LatV a b ∧ LonP c d))) := by
  refine fn_by hst (Sound.cons (by kernel_rfl) (fun args p v h hp => by unfold sLatV at h; split at h <;> cases h; exact c_pllat hst _ _) (Sound.cons (by kernel_rfl) (fun args p v h hp => by unfold sLonP at h; split at h <;> cases h; exact c_pllon hst _ _) Sound.nil)) (vc_plvalid a b c d _) ?_
  refine ⟨trivial, bcase_iff.mpr ⟨fun p => ⟨trivial, ?_⟩, fun p => ?_⟩⟩
  · exact bo_iff ⟨fun h => ⟨of_decide_eq_true p, h⟩, fun h => h.2⟩
  · exact bo_no (fun h => of_decide_eq_false p h.1)
theorem c_plvalidpoint (a b : Int) : Ans Tryz.prog Φ 41 [wid a b] (.bool (decide (PtV a b))) := by
  refine fn_by hst Sound.nil (vc_plvalidpoint a b _) ?_
  refine bcase_iff.mpr ⟨fun p => bcase_iff.mpr ⟨fun q => bcase_iff.mpr ⟨fun r => ?_, fun r => ?_⟩, fun q => ?_⟩, fun p => ?_⟩
  all_goals (try simp only [decide_eq_true_eq, decide_eq_false_iff_not] at *)
  · exact bo_iff (by unfold PtV; omega)
  all_goals exact bo_no (by unfold PtV; omega)
theorem c_r8validpoint (a b : Int) : Ans Tryz.prog Φ 29 [wid a b] (.bool (decide (PtV a b))) := by
  refine fn_by hst Sound.nil (vc_r8validpoint a b _) ?_
  refine bcase_iff.mpr ⟨fun p => bcase_iff.mpr ⟨fun q => bcase_iff.mpr ⟨fun r => ?_, fun r => ?_⟩, fun q => ?_⟩, fun p => ?_⟩
  all_goals (try simp only [decide_eq_true_eq, decide_eq_false_iff_not] at *)
  · exact bo_iff (by unfold PtV; omega)
  all_goals exact bo_no (by unfold PtV; omega)
end Go.Proofs.YtjdcicjhpegphaaGreat
/- What the functions of the directions' numbers (256 digits, the first word before the point) ask. -/
namespace Go.Proofs.YtjdcicjhpegphaaGreat
open Go Go.Abs Go.RowKit
theorem vc_atadd (a b c d x y z u : Int) (K : Value → Prop) : callsX Tryz.prog (ΓTm) (four) 185 [vN a b c d, vN x y z u] K = (
 (U64 d ∧ U64 u ∧ Bit 0) ∧ ∀ (s d_1 : Int), AddR d u 0 s d_1 → (U64 c ∧ U64 z ∧ Bit d_1) ∧ ∀ (s_1 d : Int), AddR c z d_1 s_1 d → (U64 b ∧ U64 y ∧ Bit d) ∧ ∀ (s_2 d_2 : Int), AddR b y d s_2 d_2 → (U64 a ∧ U64 x ∧ Bit d_2) ∧ ∀ (s_3 d : Int), AddR a x d_2 s_3 d → K (Value.agg #[Value.int IntKind.u64 s_3, Value.int IntKind.u64 s_2, Value.int IntKind.u64 s_1, Value.int IntKind.u64 s])) := by kernel_rfl
theorem vc_atsub (a b c d x y z u : Int) (K : Value → Prop) : callsX Tryz.prog (ΓTs) (four) 184 [vN a b c d, vN x y z u] K = (
 (U64 d ∧ U64 u ∧ Bit 0) ∧ ∀ (s d_1 : Int), SubR d u 0 s d_1 → (U64 c ∧ U64 z ∧ Bit d_1) ∧ ∀ (s_1 d : Int), SubR c z d_1 s_1 d → (U64 b ∧ U64 y ∧ Bit d) ∧ ∀ (s_2 d_2 : Int), SubR b y d s_2 d_2 → (U64 a ∧ U64 x ∧ Bit d_2) ∧ ∀ (s_3 d : Int), SubR a x d_2 s_3 d → K (Value.agg #[Value.int IntKind.u64 s_3, Value.int IntKind.u64 s_2, Value.int IntKind.u64 s_1, Value.int IntKind.u64 s])) := by kernel_rfl
theorem vc_attimes (a b c d n : Int) (K : Value → Prop) : callsX Tryz.prog (ΓTm) (four) 162 [vN a b c d, .int .u64 n] K = (
 (U64 d ∧ U64 n) ∧
 ∀ (h l : Int),
 MulR d n h l →
 (U64 l ∧ U64 0 ∧ Bit 0) ∧
 ∀ (s d : Int),
 AddR l 0 0 s d →
 (U64 c ∧ U64 n) ∧
 ∀ (h_3 l : Int),
 MulR c n h_3 l →
 (U64 l ∧ U64 (IntKind.u64.wrap (h + d)) ∧ Bit 0) ∧
 ∀ (s_1 d_1 : Int),
 AddR l (IntKind.u64.wrap (h + d)) 0 s_1 d_1 →
 (U64 b ∧ U64 n) ∧
 ∀ (h l : Int),
 MulR b n h l →
 (U64 l ∧ U64 (IntKind.u64.wrap (h_3 + d_1)) ∧ Bit 0) ∧
 ∀ (s_2 d : Int), AddR l (IntKind.u64.wrap (h_3 + d_1)) 0 s_2 d → (U64 a ∧ U64 n) ∧ ∀ (h_7 l : Int), MulR a n h_7 l → (U64 l ∧ U64 (IntKind.u64.wrap (h + d)) ∧ Bit 0) ∧ ∀ (s_3 d_2 : Int), AddR l (IntKind.u64.wrap (h + d)) 0 s_3 d_2 → K (Value.agg #[Value.int IntKind.u64 s_3, Value.int IntKind.u64 s_2, Value.int IntKind.u64 s_1, Value.int IntKind.u64 s])) := by kernel_rfl
theorem vc_atover (a b c d n : Int) (K : Value → Prop) : callsX Tryz.prog (ΓTd) (four) 172 [vN a b c d, .int .u64 n] K = (
 (U64 0 ∧ U64 a ∧ U64 n ∧ 0 < n) ∧
 ∀ (q r : Int), DivR 0 a n q r → (U64 r ∧ U64 b ∧ U64 n ∧ r < n) ∧ ∀ (q_1 r_1 : Int), DivR r b n q_1 r_1 → (U64 r_1 ∧ U64 c ∧ U64 n ∧ r_1 < n) ∧ ∀ (q_2 r : Int), DivR r_1 c n q_2 r → (U64 r ∧ U64 d ∧ U64 n ∧ r < n) ∧ ∀ (q_3 r_2 : Int), DivR r d n q_3 r_2 → K (Value.agg #[Value.int IntKind.u64 q, Value.int IntKind.u64 q_1, Value.int IntKind.u64 q_2, Value.int IntKind.u64 q_3])) := by kernel_rfl
theorem vc_atmul (a b c d x y z u : Int) (K : Value → Prop) : callsX Tryz.prog (ΓTm) (fun _ => [(0, .times 5), (2, .times 5)]) 173 [vN a b c d, vN x y z u] K = (
 (U64 d ∧ U64 u) ∧
 ∀ (h l : Int),
 MulR d u h l →
 (U64 l ∧ U64 0 ∧ Bit 0) ∧
 ∀ (s d_1 : Int),
 AddR l 0 0 s d_1 →
 (U64 s ∧ U64 0 ∧ Bit 0) ∧
 ∀ (s_1 d_2 : Int),
 AddR s 0 0 s_1 d_2 →
 (U64 d ∧ U64 z) ∧
 ∀ (h_4 l : Int),
 MulR d z h_4 l →
 (U64 l ∧ U64 0 ∧ Bit 0) ∧
 ∀ (s d_3 : Int),
 AddR l 0 0 s d_3 →
 (U64 s ∧ U64 (IntKind.u64.wrap (IntKind.u64.wrap (h + d_1) + d_2)) ∧ Bit 0) ∧
 ∀ (s_2 d_4 : Int),
 AddR s (IntKind.u64.wrap (IntKind.u64.wrap (h + d_1) + d_2)) 0 s_2 d_4 →
 (U64 d ∧ U64 y) ∧
 ∀ (h l : Int),
 MulR d y h l →
 (U64 l ∧ U64 0 ∧ Bit 0) ∧
 ∀ (s d_5 : Int),
 AddR l 0 0 s d_5 →
 (U64 s ∧ U64 (IntKind.u64.wrap (IntKind.u64.wrap (h_4 + d_3) + d_4)) ∧ Bit 0) ∧
 ∀ (s_3 d_6 : Int),
 AddR s (IntKind.u64.wrap (IntKind.u64.wrap (h_4 + d_3) + d_4)) 0 s_3 d_6 →
 (U64 d ∧ U64 x) ∧
 ∀ (h_10 l : Int),
 MulR d x h_10 l →
 (U64 l ∧ U64 0 ∧ Bit 0) ∧
 ∀ (s d : Int),
 AddR l 0 0 s d →
 (U64 s ∧ U64 (IntKind.u64.wrap (IntKind.u64.wrap (h + d_5) + d_6)) ∧ Bit 0) ∧
 ∀ (s_4 d_7 : Int),
 AddR s (IntKind.u64.wrap (IntKind.u64.wrap (h + d_5) + d_6)) 0 s_4 d_7 →
 (U64 c ∧ U64 u) ∧
 ∀ (h l : Int),
 MulR c u h l →
 (U64 l ∧ U64 s_2 ∧ Bit 0) ∧
 ∀ (s d_8 : Int),
 AddR l s_2 0 s d_8 →
 (U64 s ∧ U64 0 ∧ Bit 0) ∧
 ∀ (s_5 d_9 : Int),
 AddR s 0 0 s_5 d_9 →
 (U64 c ∧ U64 z) ∧
 ∀ (h_16 l : Int),
 MulR c z h_16 l →
 (U64 l ∧ U64 s_3 ∧ Bit 0) ∧
 ∀ (s d_10 : Int),
 AddR l s_3 0 s d_10 →
 (U64 s ∧ U64 (IntKind.u64.wrap (IntKind.u64.wrap (h + d_8) + d_9)) ∧ Bit 0) ∧
 ∀ (s_6 d_11 : Int),
 AddR s (IntKind.u64.wrap (IntKind.u64.wrap (h + d_8) + d_9)) 0 s_6 d_11 →
 (U64 c ∧ U64 y) ∧
 ∀ (h l : Int),
 MulR c y h l →
 (U64 l ∧ U64 s_4 ∧ Bit 0) ∧
 ∀ (s d_12 : Int),
 AddR l s_4 0 s d_12 →
 (U64 s ∧ U64 (IntKind.u64.wrap (IntKind.u64.wrap (h_16 + d_10) + d_11)) ∧ Bit 0) ∧
 ∀ (s_7 d_13 : Int),
 AddR s (IntKind.u64.wrap (IntKind.u64.wrap (h_16 + d_10) + d_11)) 0 s_7 d_13 →
 (U64 c ∧ U64 x) ∧
 ∀ (h_22 l : Int),
 MulR c x h_22 l →
 (U64 l ∧ U64 (IntKind.u64.wrap (0 + IntKind.u64.wrap (IntKind.u64.wrap (h_10 + d) + d_7))) ∧ Bit 0) ∧
 ∀ (s d_14 : Int),
 AddR l (IntKind.u64.wrap (0 + IntKind.u64.wrap (IntKind.u64.wrap (h_10 + d) + d_7))) 0 s d_14 →
 (U64 s ∧ U64 (IntKind.u64.wrap (IntKind.u64.wrap (h + d_12) + d_13)) ∧ Bit 0) ∧
 ∀ (s_8 d : Int),
 AddR s (IntKind.u64.wrap (IntKind.u64.wrap (h + d_12) + d_13)) 0 s_8 d →
 (U64 b ∧ U64 u) ∧
 ∀ (h l : Int),
 MulR b u h l →
 (U64 l ∧ U64 s_6 ∧ Bit 0) ∧
 ∀ (s d_15 : Int),
 AddR l s_6 0 s d_15 →
 (U64 s ∧ U64 0 ∧ Bit 0) ∧
 ∀ (s_9 d_16 : Int),
 AddR s 0 0 s_9 d_16 →
 (U64 b ∧ U64 z) ∧
 ∀ (h_28 l : Int),
 MulR b z h_28 l →
 (U64 l ∧ U64 s_7 ∧ Bit 0) ∧
 ∀ (s d_17 : Int),
 AddR l s_7 0 s d_17 →
 (U64 s ∧ U64 (IntKind.u64.wrap (IntKind.u64.wrap (h + d_15) + d_16)) ∧ Bit 0) ∧
 ∀ (s_10 d_18 : Int),
 AddR s (IntKind.u64.wrap (IntKind.u64.wrap (h + d_15) + d_16)) 0 s_10 d_18 →
 (U64 b ∧ U64 y) ∧
 ∀ (h l : Int),
 MulR b y h l →
 (U64 l ∧ U64 s_8 ∧ Bit 0) ∧
 ∀ (s d_19 : Int),
 AddR l s_8 0 s d_19 →
 (U64 s ∧ U64 (IntKind.u64.wrap (IntKind.u64.wrap (h_28 + d_17) + d_18)) ∧ Bit 0) ∧
 ∀ (s_11 d_20 : Int),
 AddR s (IntKind.u64.wrap (IntKind.u64.wrap (h_28 + d_17) + d_18)) 0 s_11 d_20 →
 (U64 b ∧ U64 x) ∧
 ∀ (h_34 l : Int),
 MulR b x h_34 l →
 (U64 l ∧ U64 (IntKind.u64.wrap (0 + IntKind.u64.wrap (IntKind.u64.wrap (h_22 + d_14) + d))) ∧ Bit 0) ∧
 ∀ (s d_21 : Int),
 AddR l (IntKind.u64.wrap (0 + IntKind.u64.wrap (IntKind.u64.wrap (h_22 + d_14) + d))) 0 s d_21 →
 (U64 s ∧ U64 (IntKind.u64.wrap (IntKind.u64.wrap (h + d_19) + d_20)) ∧ Bit 0) ∧
 ∀ (s_12 d : Int),
 AddR s (IntKind.u64.wrap (IntKind.u64.wrap (h + d_19) + d_20)) 0 s_12 d →
 (U64 a ∧ U64 u) ∧
 ∀ (h l : Int),
 MulR a u h l →
 (U64 l ∧ U64 s_10 ∧ Bit 0) ∧
 ∀ (s d_22 : Int),
 AddR l s_10 0 s d_22 →
 (U64 s ∧ U64 0 ∧ Bit 0) ∧
 ∀ (s_13 d_23 : Int),
 AddR s 0 0 s_13 d_23 →
 (U64 a ∧ U64 z) ∧
 ∀ (h_40 l : Int),
 MulR a z h_40 l →
 (U64 l ∧ U64 s_11 ∧ Bit 0) ∧
 ∀ (s d_24 : Int),
 AddR l s_11 0 s d_24 →
 (U64 s ∧ U64 (IntKind.u64.wrap (IntKind.u64.wrap (h + d_22) + d_23)) ∧ Bit 0) ∧
 ∀ (s_14 d_25 : Int),
 AddR s (IntKind.u64.wrap (IntKind.u64.wrap (h + d_22) + d_23)) 0 s_14 d_25 →
 (U64 a ∧ U64 y) ∧
 ∀ (h l : Int),
 MulR a y h l →
 (U64 l ∧ U64 s_12 ∧ Bit 0) ∧
 ∀ (s d_26 : Int),
 AddR l s_12 0 s d_26 →
 (U64 s ∧ U64 (IntKind.u64.wrap (IntKind.u64.wrap (h_40 + d_24) + d_25)) ∧ Bit 0) ∧
 ∀ (s_15 d_27 : Int),
 AddR s (IntKind.u64.wrap (IntKind.u64.wrap (h_40 + d_24) + d_25)) 0 s_15 d_27 →
 (U64 a ∧ U64 x) ∧
 ∀ (h_46 l : Int),
 MulR a x h_46 l →
 (U64 l ∧ U64 (IntKind.u64.wrap (0 + IntKind.u64.wrap (IntKind.u64.wrap (h_34 + d_21) + d))) ∧ Bit 0) ∧
 ∀ (s d_28 : Int),
 AddR l (IntKind.u64.wrap (0 + IntKind.u64.wrap (IntKind.u64.wrap (h_34 + d_21) + d))) 0 s d_28 → (U64 s ∧ U64 (IntKind.u64.wrap (IntKind.u64.wrap (h + d_26) + d_27)) ∧ Bit 0) ∧ ∀ (s_16 d : Int), AddR s (IntKind.u64.wrap (IntKind.u64.wrap (h + d_26) + d_27)) 0 s_16 d → K (Value.agg #[Value.int IntKind.u64 s_16, Value.int IntKind.u64 s_15, Value.int IntKind.u64 s_14, Value.int IntKind.u64 s_13])) := by kernel_rfl
theorem vc_atless (a b c d x y z u : Int) (K : Value → Prop) : callsX Tryz.prog ([]) (four) 163 [vN a b c d, vN x y z u] K = (
 bcase (a != x) (K (Value.bool (decide (a < x)))) (bcase (b != y) (K (Value.bool (decide (b < y)))) (bcase (c != z) (K (Value.bool (decide (c < z)))) (bcase (d != u) (K (Value.bool (decide (d < u)))) (K (Value.bool false)))))) := by kernel_rfl
end Go.Proofs.YtjdcicjhpegphaaGreat
/- The directions' numbers: contracts of sums, differences, multiples, parts, products, and of the order. -/
namespace Go.Proofs.YtjdcicjhpegphaaGreat
open Go Go.Abs Go.RowKit
theorem rowc {x n h l C s d : Int} (hm : MulR x n h l) (h1 : AddR l C 0 s d) (hC : U64 C) :
    ∃ c, IntKind.u64.wrap (h + d) = c ∧ U64 c ∧ x * n + C = c * 18446744073709551616 + s := by
  obtain ⟨a1, a2, a3, a4, a5, a6⟩ := hm
  obtain ⟨b1, b2, b3⟩ := h1
  have b2 := bit_lt b2
  unfold U64 at *
  generalize x * n = p at *
  exact ⟨h + d, wrap_u64 (by omega), by omega, by omega⟩
variable {Φ : World → Prop} (hst : ∀ w w', Φ w → Below w.heap.size w w' → Φ w')
include hst
theorem c_atadd {a b c d x y z u : Int} (hA : U4 a b c d) (hB : U4 x y z u) : Ans Tryz.prog Φ 185 [vN a b c d, vN x y z u] (vNat ((nval a b c d + nval x y z u) % W4)) := by
  refine fn_by hst (s_Tm hst) (vc_atadd a b c d x y z u _) ?_
  obtain ⟨ua, ub, uc, ud⟩ := hA
  obtain ⟨ux, uy, uz, uu⟩ := hB
  refine ⟨⟨ud, uu, bit0⟩, fun s1 b1 h1 => ⟨⟨uc, uz, h1.2.1⟩, fun s2 b2 h2 => ⟨⟨ub, uy, h2.2.1⟩, fun s3 b3 h3 => ⟨⟨ua, ux, h3.2.1⟩, fun s4 b4 h4 => ?_⟩⟩⟩⟩
  refine isN_v ⟨⟨h4.1, h3.1, h2.1, h1.1⟩, ?_⟩
  obtain ⟨⟨p1, q1⟩, r1, e1⟩ := h1
  obtain ⟨⟨p2, q2⟩, r2, e2⟩ := h2
  obtain ⟨⟨p3, q3⟩, r3, e3⟩ := h3
  obtain ⟨⟨p4, q4⟩, r4, e4⟩ := h4
  unfold nval W4
  omega
theorem c_atsub {a b c d x y z u : Int} (hA : U4 a b c d) (hB : U4 x y z u) : Ans Tryz.prog Φ 184 [vN a b c d, vN x y z u] (vNat ((nval a b c d - nval x y z u) % W4)) := by
  refine fn_by hst s_Ts (vc_atsub a b c d x y z u _) ?_
  obtain ⟨ua, ub, uc, ud⟩ := hA
  obtain ⟨ux, uy, uz, uu⟩ := hB
  refine ⟨⟨ud, uu, bit0⟩, fun s1 b1 h1 => ⟨⟨uc, uz, h1.2.1⟩, fun s2 b2 h2 => ⟨⟨ub, uy, h2.2.1⟩, fun s3 b3 h3 => ⟨⟨ua, ux, h3.2.1⟩, fun s4 b4 h4 => ?_⟩⟩⟩⟩
  refine isN_v ⟨⟨h4.1, h3.1, h2.1, h1.1⟩, ?_⟩
  obtain ⟨⟨p1, q1⟩, r1, e1⟩ := h1
  obtain ⟨⟨p2, q2⟩, r2, e2⟩ := h2
  obtain ⟨⟨p3, q3⟩, r3, e3⟩ := h3
  obtain ⟨⟨p4, q4⟩, r4, e4⟩ := h4
  unfold nval W4
  omega
theorem c_attimes {a b c d n : Int} (hA : U4 a b c d) (hn : U64 n) : Ans Tryz.prog Φ 162 [vN a b c d, .int .u64 n] (vNat ((nval a b c d * n) % W4)) := by
  refine fn_by hst (s_Tm hst) (vc_attimes a b c d n _) ?_
  obtain ⟨ua, ub, uc, ud⟩ := hA
  refine ⟨⟨ud, hn⟩, fun h1 l1 m1 => ⟨⟨m1.2.1, u0, bit0⟩, fun s1 e1 f1 => ?_⟩⟩
  obtain ⟨C1, w1, v1, p1⟩ := rowc m1 f1 u0
  rw [w1]
  refine ⟨⟨uc, hn⟩, fun h2 l2 m2 => ⟨⟨m2.2.1, v1, bit0⟩, fun s2 e2 f2 => ?_⟩⟩
  obtain ⟨C2, w2, v2, p2⟩ := rowc m2 f2 v1
  rw [w2]
  refine ⟨⟨ub, hn⟩, fun h3 l3 m3 => ⟨⟨m3.2.1, v2, bit0⟩, fun s3 e3 f3 => ?_⟩⟩
  obtain ⟨C3, w3, v3, p3⟩ := rowc m3 f3 v2
  rw [w3]
  refine ⟨⟨ua, hn⟩, fun h4 l4 m4 => ⟨⟨m4.2.1, v3, bit0⟩, fun s4 e4 f4 => ?_⟩⟩
  obtain ⟨C4, w4, v4, p4⟩ := rowc m4 f4 v3
  refine isN_v ⟨⟨f4.1, f3.1, f2.1, f1.1⟩, ?_⟩
  have z1 := f1.1; have z2 := f2.1; have z3 := f3.1; have z4 := f4.1
  clear m1 m2 m3 m4 f1 f2 f3 f4 w1 w2 w3 w4 ua ub uc ud
  unfold nval W4
  unfold U64 at *
  rw [Int.add_mul, Int.add_mul, Int.add_mul, Int.mul_right_comm a, Int.mul_right_comm b, Int.mul_right_comm c]
  generalize a * n = q1 at *
  generalize b * n = q2 at *
  generalize c * n = q3 at *
  generalize d * n = q4 at *
  omega
theorem c_atover {a b c d y : Int} (hA : U4 a b c d) (hy : U64 y) (hlt : 0 < y) : Ans Tryz.prog Φ 172 [vN a b c d, .int .u64 y] (vNat (nval a b c d / y)) := by
  refine fn_by hst (s_Td hst) (vc_atover a b c d y _) ?_
  obtain ⟨ua, ub, uc, ud⟩ := hA
  have ur : ∀ {h l q r : Int}, DivR h l y q r → U64 r := fun h => ⟨h.2.1, by have := h.2.2.1; have := hy.2; omega⟩
  refine ⟨⟨u0, ua, hy, hlt⟩, fun q1 r1 h1 => ⟨⟨ur h1, ub, hy, h1.2.2.1⟩, fun q2 r2 h2 => ⟨⟨ur h2, uc, hy, h2.2.2.1⟩, fun q3 r3 h3 => ⟨⟨ur h3, ud, hy, h3.2.2.1⟩, fun q4 r4 h4 => ?_⟩⟩⟩⟩
  refine isN_v ⟨⟨h1.1, h2.1, h3.1, h4.1⟩, ?_⟩
  have e : nval a b c d = r4 + nval q1 q2 q3 q4 * y := by
    have e1 := h1.2.2.2
    have e2 := h2.2.2.2
    have e3 := h3.2.2.2
    have e4 := h4.2.2.2
    unfold nval
    rw [Int.add_mul, Int.add_mul, Int.add_mul, Int.mul_right_comm q1, Int.mul_right_comm q2, Int.mul_right_comm q3]
    generalize q1 * y = p1 at *
    generalize q2 * y = p2 at *
    generalize q3 * y = p3 at *
    generalize q4 * y = p4 at *
    omega
  have y0 : y ≠ 0 := by omega
  rw [e, Int.add_mul_ediv_right _ _ y0, Int.ediv_eq_zero_of_lt h4.2.1 h4.2.2.1, Int.zero_add]
theorem c_atless {a b c d x y z u : Int} (hA : U4 a b c d) (hB : U4 x y z u) : Ans Tryz.prog Φ 163 [vN a b c d, vN x y z u] (.bool (decide (nval a b c d < nval x y z u))) := by
  refine fn_by hst Sound.nil (vc_atless a b c d x y z u _) ?_
  obtain ⟨⟨a0, a1⟩, ⟨b0, b1⟩, ⟨c0, c1⟩, d0, d1⟩ := hA
  obtain ⟨⟨x0, x1⟩, ⟨y0, y1⟩, ⟨z0, z1⟩, w0, w1⟩ := hB
  have key : ∀ {p q : Prop} [Decidable p] [Decidable q], (p ↔ q) → Value.bool (decide p) = Value.bool (decide q) := fun h => congrArg Value.bool (decide_eq_decide.mpr h)
  unfold nval
  refine bcase_iff.mpr ⟨fun q => key ?_, fun q => bcase_iff.mpr ⟨fun q2 => key ?_, fun q2 => bcase_iff.mpr ⟨fun q3 => key ?_, fun q3 => bcase_iff.mpr ⟨fun q4 => key ?_, fun q4 => ?_⟩⟩⟩⟩
  all_goals simp at *
  all_goals omega
end Go.Proofs.YtjdcicjhpegphaaGreat
/- The product of the directions' numbers: the words behind the point are cut off. -/
namespace Go.Proofs.YtjdcicjhpegphaaGreat
open Go Go.Abs Go.RowKit
theorem rowm {x y h l S C s1 d1 s2 d2 : Int} (hm : MulR x y h l) (h1 : AddR l S 0 s1 d1) (h2 : AddR s1 C 0 s2 d2) (hS : U64 S) (hC : U64 C) :
    ∃ c, IntKind.u64.wrap (IntKind.u64.wrap (h + d1) + d2) = c ∧ U64 c ∧ x * y + S + C = c * 18446744073709551616 + s2 := by
  refine row hm ⟨h1.1, h1.2.1, ?_⟩ h2 hS hC
  have := h1.2.2
  omega
theorem wrap0 {n : Int} (h : U64 n) : IntKind.u64.wrap (0 + n) = n := by rw [Int.zero_add]; exact wrap_u64 h
theorem four_rows {t x y z u S1 S2 S3 S4 C1 C2 C3 C4 r1 r2 r3 r4 : Int} (p1 : t * u + S1 + 0 = C1 * 18446744073709551616 + r1) (p2 : t * z + S2 + C1 = C2 * 18446744073709551616 + r2) (p3 : t * y + S3 + C2 = C3 * 18446744073709551616 + r3) (p4 : t * x + S4 + C3 = C4 * 18446744073709551616 + r4) :
    t * nval x y z u + nval S4 S3 S2 S1 = C4 * 115792089237316195423570985008687907853269984665640564039457584007913129639936 + nval r4 r3 r2 r1 := by
  unfold nval
  rw [Int.mul_add, Int.mul_add, Int.mul_add, ← Int.mul_assoc, ← Int.mul_assoc, ← Int.mul_assoc]
  generalize t * u = q1 at *
  generalize t * z = q2 at *
  generalize t * y = q3 at *
  generalize t * x = q4 at *
  omega
theorem c_atmul {Φ : World → Prop} (hst : ∀ w w', Φ w → Below w.heap.size w w' → Φ w') {a b c d x y z u : Int} (hA : U4 a b c d) (hB : U4 x y z u) : Ans Tryz.prog Φ 173 [vN a b c d, vN x y z u] (vNat (nval a b c d * nval x y z u / 6277101735386680763835789423207666416102355444464034512896 % W4)) := by
  refine fn_by hst (s_Tm hst) (vc_atmul a b c d x y z u _) ?_
  obtain ⟨ua, ub, uc, ud⟩ := hA
  obtain ⟨ux, uy, uz, uu⟩ := hB
  refine ⟨⟨ud, uu⟩, fun h1 l1 m1 => ⟨⟨m1.2.1, u0, bit0⟩, fun s1 e1 f1 => ⟨⟨f1.1, u0, bit0⟩, fun r1 g1 q1 => ?_⟩⟩⟩
  obtain ⟨C1, w1, v1, p1⟩ := rowm m1 f1 q1 u0 u0
  rw [w1]
  refine ⟨⟨ud, uz⟩, fun h2 l2 m2 => ⟨⟨m2.2.1, u0, bit0⟩, fun s2 e2 f2 => ⟨⟨f2.1, v1, bit0⟩, fun r2 g2 q2 => ?_⟩⟩⟩
  obtain ⟨C2, w2, v2, p2⟩ := rowm m2 f2 q2 u0 v1
  rw [w2]
  refine ⟨⟨ud, uy⟩, fun h3 l3 m3 => ⟨⟨m3.2.1, u0, bit0⟩, fun s3 e3 f3 => ⟨⟨f3.1, v2, bit0⟩, fun r3 g3 q3 => ?_⟩⟩⟩
  obtain ⟨C3, w3, v3, p3⟩ := rowm m3 f3 q3 u0 v2
  rw [w3]
  refine ⟨⟨ud, ux⟩, fun h4 l4 m4 => ⟨⟨m4.2.1, u0, bit0⟩, fun s4 e4 f4 => ⟨⟨f4.1, v3, bit0⟩, fun r4 g4 q4 => ?_⟩⟩⟩
  obtain ⟨C4, w4, v4, p4⟩ := rowm m4 f4 q4 u0 v3
  rw [w4]
  rw [wrap0 v4]
  have t3 := four_rows p1 p2 p3 p4
  clear p1 w1 p2 w2 p3 w3 p4 w4
  refine ⟨⟨uc, uu⟩, fun h5 l5 m5 => ⟨⟨m5.2.1, q2.1, bit0⟩, fun s5 e5 f5 => ⟨⟨f5.1, u0, bit0⟩, fun r5 g5 q5 => ?_⟩⟩⟩
  obtain ⟨C5, w5, v5, p5⟩ := rowm m5 f5 q5 q2.1 u0
  rw [w5]
  refine ⟨⟨uc, uz⟩, fun h6 l6 m6 => ⟨⟨m6.2.1, q3.1, bit0⟩, fun s6 e6 f6 => ⟨⟨f6.1, v5, bit0⟩, fun r6 g6 q6 => ?_⟩⟩⟩
  obtain ⟨C6, w6, v6, p6⟩ := rowm m6 f6 q6 q3.1 v5
  rw [w6]
  refine ⟨⟨uc, uy⟩, fun h7 l7 m7 => ⟨⟨m7.2.1, q4.1, bit0⟩, fun s7 e7 f7 => ⟨⟨f7.1, v6, bit0⟩, fun r7 g7 q7 => ?_⟩⟩⟩
  obtain ⟨C7, w7, v7, p7⟩ := rowm m7 f7 q7 q4.1 v6
  rw [w7]
  refine ⟨⟨uc, ux⟩, fun h8 l8 m8 => ⟨⟨m8.2.1, v4, bit0⟩, fun s8 e8 f8 => ⟨⟨f8.1, v7, bit0⟩, fun r8 g8 q8 => ?_⟩⟩⟩
  obtain ⟨C8, w8, v8, p8⟩ := rowm m8 f8 q8 v4 v7
  rw [w8]
  rw [wrap0 v8]
  have t2 := four_rows p5 p6 p7 p8
  clear p5 w5 p6 w6 p7 w7 p8 w8
  refine ⟨⟨ub, uu⟩, fun h9 l9 m9 => ⟨⟨m9.2.1, q6.1, bit0⟩, fun s9 e9 f9 => ⟨⟨f9.1, u0, bit0⟩, fun r9 g9 q9 => ?_⟩⟩⟩
  obtain ⟨C9, w9, v9, p9⟩ := rowm m9 f9 q9 q6.1 u0
  rw [w9]
  refine ⟨⟨ub, uz⟩, fun h10 l10 m10 => ⟨⟨m10.2.1, q7.1, bit0⟩, fun s10 e10 f10 => ⟨⟨f10.1, v9, bit0⟩, fun r10 g10 q10 => ?_⟩⟩⟩
  obtain ⟨C10, w10, v10, p10⟩ := rowm m10 f10 q10 q7.1 v9
  rw [w10]
  refine ⟨⟨ub, uy⟩, fun h11 l11 m11 => ⟨⟨m11.2.1, q8.1, bit0⟩, fun s11 e11 f11 => ⟨⟨f11.1, v10, bit0⟩, fun r11 g11 q11 => ?_⟩⟩⟩
  obtain ⟨C11, w11, v11, p11⟩ := rowm m11 f11 q11 q8.1 v10
  rw [w11]
  refine ⟨⟨ub, ux⟩, fun h12 l12 m12 => ⟨⟨m12.2.1, v8, bit0⟩, fun s12 e12 f12 => ⟨⟨f12.1, v11, bit0⟩, fun r12 g12 q12 => ?_⟩⟩⟩
  obtain ⟨C12, w12, v12, p12⟩ := rowm m12 f12 q12 v8 v11
  rw [w12]
  rw [wrap0 v12]
  have t1 := four_rows p9 p10 p11 p12
  clear p9 w9 p10 w10 p11 w11 p12 w12
  refine ⟨⟨ua, uu⟩, fun h13 l13 m13 => ⟨⟨m13.2.1, q10.1, bit0⟩, fun s13 e13 f13 => ⟨⟨f13.1, u0, bit0⟩, fun r13 g13 q13 => ?_⟩⟩⟩
  obtain ⟨C13, w13, v13, p13⟩ := rowm m13 f13 q13 q10.1 u0
  rw [w13]
  refine ⟨⟨ua, uz⟩, fun h14 l14 m14 => ⟨⟨m14.2.1, q11.1, bit0⟩, fun s14 e14 f14 => ⟨⟨f14.1, v13, bit0⟩, fun r14 g14 q14 => ?_⟩⟩⟩
  obtain ⟨C14, w14, v14, p14⟩ := rowm m14 f14 q14 q11.1 v13
  rw [w14]
  refine ⟨⟨ua, uy⟩, fun h15 l15 m15 => ⟨⟨m15.2.1, q12.1, bit0⟩, fun s15 e15 f15 => ⟨⟨f15.1, v14, bit0⟩, fun r15 g15 q15 => ?_⟩⟩⟩
  obtain ⟨C15, w15, v15, p15⟩ := rowm m15 f15 q15 q12.1 v14
  rw [w15]
  refine ⟨⟨ua, ux⟩, fun h16 l16 m16 => ⟨⟨m16.2.1, v12, bit0⟩, fun s16 e16 f16 => ⟨⟨f16.1, v15, bit0⟩, fun r16 g16 q16 => ?_⟩⟩⟩
  obtain ⟨C16, w16, v16, p16⟩ := rowm m16 f16 q16 v12 v15
  have t0 := four_rows p13 p14 p15 p16
  clear p13 w13 p14 w14 p15 w15 p16 w16
  refine isN_v ⟨⟨q16.1, q15.1, q14.1, q13.1⟩, ?_⟩
  have e : nval a b c d * nval x y z u = a * nval x y z u * 6277101735386680763835789423207666416102355444464034512896 + b * nval x y z u * 340282366920938463463374607431768211456 + c * nval x y z u * 18446744073709551616 + d * nval x y z u := by
    generalize nval x y z u = B
    unfold nval
    rw [Int.add_mul, Int.add_mul, Int.add_mul, Int.mul_right_comm a, Int.mul_right_comm b, Int.mul_right_comm c]
  rw [e]
  generalize a * nval x y z u = TA at *
  generalize b * nval x y z u = TB at *
  generalize c * nval x y z u = TC at *
  generalize d * nval x y z u = TD at *
  have z0 := v16
  have z1 := q16.1
  have z2 := q15.1
  have z3 := q14.1
  have z4 := q13.1
  have z5 := q9.1
  have z6 := q5.1
  have z7 := q1.1
  have e5 := t3; have e6 := t2; have e7 := t1; have e8 := t0
  clear e t0 t1 t2 t3
  unfold U64 at *
  unfold nval at *
  unfold W4
  omega
end Go.Proofs.YtjdcicjhpegphaaGreat
/- Sines and cosines by their series, as the directions have them: what they answer. -/
namespace Go.Proofs.YtjdcicjhpegphaaGreat
open Go Go.Abs Go.RowKit
abbrev W3 : Int := 6277101735386680763835789423207666416102355444464034512896
def tmI (A B : Int) : Int := A * B / W3 % W4
def qAtAdd : QSpec := fun | [.agg ⟨[.int .u64 a, .int .u64 b, .int .u64 c, .int .u64 d]⟩, .agg ⟨[.int .u64 x, .int .u64 y, .int .u64 z, .int .u64 u]⟩] => some (U4 a b c d ∧ U4 x y z u, fun K => ∀ e f g h, IsN ((nval a b c d + nval x y z u) % W4) e f g h → K (vN e f g h)) | _ => none
def qAtSub : QSpec := fun | [.agg ⟨[.int .u64 a, .int .u64 b, .int .u64 c, .int .u64 d]⟩, .agg ⟨[.int .u64 x, .int .u64 y, .int .u64 z, .int .u64 u]⟩] => some (U4 a b c d ∧ U4 x y z u, fun K => ∀ e f g h, IsN ((nval a b c d - nval x y z u) % W4) e f g h → K (vN e f g h)) | _ => none
def qAtMul : QSpec := fun | [.agg ⟨[.int .u64 a, .int .u64 b, .int .u64 c, .int .u64 d]⟩, .agg ⟨[.int .u64 x, .int .u64 y, .int .u64 z, .int .u64 u]⟩] => some (U4 a b c d ∧ U4 x y z u, fun K => ∀ e f g h, IsN (tmI (nval a b c d) (nval x y z u)) e f g h → K (vN e f g h)) | _ => none
def qAtTimes : QSpec := fun | [.agg ⟨[.int .u64 a, .int .u64 b, .int .u64 c, .int .u64 d]⟩, .int .u64 n] => some (U4 a b c d ∧ U64 n, fun K => ∀ e f g h, IsN (nval a b c d * n % W4) e f g h → K (vN e f g h)) | _ => none
def PosI (y : Int) : Prop := 0 < y
def qAtOver : QSpec := fun | [.agg ⟨[.int .u64 a, .int .u64 b, .int .u64 c, .int .u64 d]⟩, .int .u64 y] => some (U4 a b c d ∧ U64 y ∧ PosI y, fun K => ∀ e f g h, IsN (nval a b c d / y) e f g h → K (vN e f g h)) | _ => none
def sAtLess : FSpec := fun | [.agg ⟨[.int .u64 a, .int .u64 b, .int .u64 c, .int .u64 d]⟩, .agg ⟨[.int .u64 x, .int .u64 y, .int .u64 z, .int .u64 u]⟩] => some (U4 a b c d ∧ U4 x y z u, .bool (decide (nval a b c d < nval x y z u))) | _ => none
def serI (Q : Int) : Nat → Int → Int → Int → Bool → Int
  | 0, s, _, _, _ => s
  | k + 1, s, t, n, m => if t = 0 then s else serI Q k (if m = true then (s - tmI t Q / ((n + 1) * (n + 2))) % W4 else (s + tmI t Q / ((n + 1) * (n + 2))) % W4) (tmI t Q / ((n + 1) * (n + 2))) (n + 2) (!m)
def SqOk (Q n : Int) : Prop := Q ≤ W3 ∧ 0 ≤ n ∧ n ≤ 1
def qSer : QSpec := fun | [.agg ⟨[.int .u64 a, .int .u64 b, .int .u64 c, .int .u64 d]⟩, .agg ⟨[.int .u64 x, .int .u64 y, .int .u64 z, .int .u64 u]⟩, .int .u64 n] => some (U4 a b c d ∧ U4 x y z u ∧ SqOk (nval x y z u) n, fun K => ∀ e f g h, IsN (serI (nval x y z u) 300 (nval a b c d) (nval a b c d) n true) e f g h → K (vN e f g h)) | _ => none
structure Sr where
  k : Nat
  a : Int
  b : Int
  c : Int
  d : Int
  x : Int
  y : Int
  z : Int
  u : Int
  m : Bool
structure SrR (F Q n0 : Int) (k : Nat) (a b c d x y z u : Int) (m : Bool) : Prop where
  le : k ≤ 257
  us : U4 a b c d
  ut : U4 x y z u
  pw : nval x y z u * 2 ^ k ≤ W4
  eq : serI Q 300 F F n0 true = serI Q (300 - k) (nval a b c d) (nval x y z u) (n0 + 2 * k) m
def annSer (F Q n0 : Int) : Ann where
  σ := Sr
  st := fun s v => ⟨lset (lset (keepA s 36 [3, 4, 6, 7, 8]) 2 (.v (.int .u64 (n0 + 2 * v.k)))) 9 (.v (.bool v.m)),
    setCs ⟨[], setCs s 3 [.v (.int .u64 v.a), .v (.int .u64 v.b), .v (.int .u64 v.c), .v (.int .u64 v.d)]⟩ 4 [.v (.int .u64 v.x), .v (.int .u64 v.y), .v (.int .u64 v.z), .v (.int .u64 v.u)]⟩
  inv := fun _ v => SrR F Q n0 v.k v.a v.b v.c v.d v.x v.y v.z v.u v.m
  μ := fun _ v => 300 - v.k
def ASer (F Q n0 : Int) : FuncId → List (Nat × LoopBy) := fun _ => [(0, .ann (annSer F Q n0))]
def ΓSr : List (FuncId × CSpec) := [(173, .q qAtMul), (172, .q qAtOver), (184, .q qAtSub), (185, .q qAtAdd)]
end Go.Proofs.YtjdcicjhpegphaaGreat
/- Sines and cosines by their series: what the functions ask. -/
namespace Go.Proofs.YtjdcicjhpegphaaGreat
open Go Go.Abs Go.RowKit
theorem vc_atseries (a b c d x y z u n : Int) (K : Value → Prop) : callsX Tryz.prog (ΓSr) (ASer (nval a b c d) (nval x y z u) n) 174 [vN a b c d, vN x y z u, .int .u64 n] K = (
 ∃ (s : Sr),
 (n = n + 2 * (↑s.1 : Int) ∧ true = s.10 ∧ a = a ∧ b = b ∧ c = c ∧ d = d ∧ x = x ∧ y = y ∧ z = z ∧ u = u ∧ Int.ofNat 0 = 0 ∧ Int.ofNat 0 = 0 ∧ Int.ofNat 0 = 0 ∧ Int.ofNat 0 = 0 ∧ a = s.2 ∧ b = s.3 ∧ c = s.4 ∧ d = s.5 ∧ a = s.6 ∧ b = s.7 ∧ c = s.8 ∧ d = s.9 ∧ True) ∧
 SrR (nval a b c d) (nval x y z u) n s.1 s.2 s.3 s.4 s.5 s.6 s.7 s.8 s.9 s.10 ∧
 ∀ (s : Sr),
 SrR (nval a b c d) (nval x y z u) n s.1 s.2 s.3 s.4 s.5 s.6 s.7 s.8 s.9 s.10 →
 bcase (!(s.6 == 0 && (s.7 == 0 && (s.8 == 0 && (s.9 == 0 && true)))))
 ((U4 s.6 s.7 s.8 s.9 ∧ U4 x y z u) ∧
 ∀ (e f g h : Int),
 IsN (tmI (nval s.6 s.7 s.8 s.9) (nval x y z u)) e f g h →
 (U4 e f g h ∧ U64 (IntKind.u64.wrap (IntKind.u64.wrap (n + 2 * (↑s.1 : Int) + 1) * IntKind.u64.wrap (n + 2 * (↑s.1 : Int) + 2))) ∧ PosI (IntKind.u64.wrap (IntKind.u64.wrap (n + 2 * (↑s.1 : Int) + 1) * IntKind.u64.wrap (n + 2 * (↑s.1 : Int) + 2)))) ∧
 ∀ (e_1 f_1 g_1 h_2 : Int),
 IsN (nval e f g h / IntKind.u64.wrap (IntKind.u64.wrap (n + 2 * (↑s.1 : Int) + 1) * IntKind.u64.wrap (n + 2 * (↑s.1 : Int) + 2))) e_1 f_1 g_1 h_2 →
 bcase s.10
 ((U4 s.2 s.3 s.4 s.5 ∧ U4 e_1 f_1 g_1 h_2) ∧
 ∀ (e f g h : Int),
 IsN ((nval s.2 s.3 s.4 s.5 - nval e_1 f_1 g_1 h_2) % W4) e f g h →
 ∃ (s_1 : Sr),
 (IntKind.u64.wrap (n + 2 * (↑s.1 : Int) + 2) = n + 2 * (↑s_1.1 : Int) ∧ (!s.10) = s_1.10 ∧ a = a ∧ b = b ∧ c = c ∧ d = d ∧ x = x ∧ y = y ∧ z = z ∧ u = u ∧ Int.ofNat 0 = 0 ∧ Int.ofNat 0 = 0 ∧ Int.ofNat 0 = 0 ∧ Int.ofNat 0 = 0 ∧ e = s_1.2 ∧ f = s_1.3 ∧ g = s_1.4 ∧ h = s_1.5 ∧ e_1 = s_1.6 ∧ f_1 = s_1.7 ∧ g_1 = s_1.8 ∧ h_2 = s_1.9 ∧ True) ∧
 SrR (nval a b c d) (nval x y z u) n s_1.1 s_1.2 s_1.3 s_1.4 s_1.5 s_1.6 s_1.7 s_1.8 s_1.9 s_1.10 ∧ 300 - s_1.1 < 300 - s.1)
 ((U4 s.2 s.3 s.4 s.5 ∧ U4 e_1 f_1 g_1 h_2) ∧
 ∀ (e f g h : Int),
 IsN ((nval s.2 s.3 s.4 s.5 + nval e_1 f_1 g_1 h_2) % W4) e f g h →
 ∃ (s_1 : Sr),
 (IntKind.u64.wrap (n + 2 * (↑s.1 : Int) + 2) = n + 2 * (↑s_1.1 : Int) ∧ (!s.10) = s_1.10 ∧ a = a ∧ b = b ∧ c = c ∧ d = d ∧ x = x ∧ y = y ∧ z = z ∧ u = u ∧ Int.ofNat 0 = 0 ∧ Int.ofNat 0 = 0 ∧ Int.ofNat 0 = 0 ∧ Int.ofNat 0 = 0 ∧ e = s_1.2 ∧ f = s_1.3 ∧ g = s_1.4 ∧ h = s_1.5 ∧ e_1 = s_1.6 ∧ f_1 = s_1.7 ∧ g_1 = s_1.8 ∧ h_2 = s_1.9 ∧ True) ∧
 SrR (nval a b c d) (nval x y z u) n s_1.1 s_1.2 s_1.3 s_1.4 s_1.5 s_1.6 s_1.7 s_1.8 s_1.9 s_1.10 ∧ 300 - s_1.1 < 300 - s.1))
 (K (Value.agg #[Value.int IntKind.u64 s.2, Value.int IntKind.u64 s.3, Value.int IntKind.u64 s.4, Value.int IntKind.u64 s.5]))) := by kernel_rfl
end Go.Proofs.YtjdcicjhpegphaaGreat
/- Sines and cosines by their series: the contract of the series. -/
namespace Go.Proofs.YtjdcicjhpegphaaGreat
open Go Go.Abs Go.RowKit
section
variable {Φ : World → Prop} (hst : ∀ w w', Φ w → Below w.heap.size w w' → Φ w')
include hst
theorem h_atadd : ∀ args p Q, qAtAdd args = some (p, Q) → p → ∀ K, Q K → ∃ v, Ans Tryz.prog Φ 185 args v ∧ K v := by
  intro args p Q h hp K hK
  unfold qAtAdd at h
  split at h <;> cases h
  exact ⟨_, c_atadd hst hp.1 hp.2, vNat_is (Int.emod_nonneg _ (by decide)) (Int.emod_lt_of_pos _ (by decide)) hK⟩
theorem h_atsub : ∀ args p Q, qAtSub args = some (p, Q) → p → ∀ K, Q K → ∃ v, Ans Tryz.prog Φ 184 args v ∧ K v := by
  intro args p Q h hp K hK
  unfold qAtSub at h
  split at h <;> cases h
  exact ⟨_, c_atsub hst hp.1 hp.2, vNat_is (Int.emod_nonneg _ (by decide)) (Int.emod_lt_of_pos _ (by decide)) hK⟩
theorem h_atmul : ∀ args p Q, qAtMul args = some (p, Q) → p → ∀ K, Q K → ∃ v, Ans Tryz.prog Φ 173 args v ∧ K v := by
  intro args p Q h hp K hK
  unfold qAtMul at h
  split at h <;> cases h
  exact ⟨_, c_atmul hst hp.1 hp.2, vNat_is (Int.emod_nonneg _ (by decide)) (Int.emod_lt_of_pos _ (by decide)) hK⟩
theorem h_attimes : ∀ args p Q, qAtTimes args = some (p, Q) → p → ∀ K, Q K → ∃ v, Ans Tryz.prog Φ 162 args v ∧ K v := by
  intro args p Q h hp K hK
  unfold qAtTimes at h
  split at h <;> cases h
  exact ⟨_, c_attimes hst hp.1 hp.2, vNat_is (Int.emod_nonneg _ (by decide)) (Int.emod_lt_of_pos _ (by decide)) hK⟩
theorem h_atover : ∀ args p Q, qAtOver args = some (p, Q) → p → ∀ K, Q K → ∃ v, Ans Tryz.prog Φ 172 args v ∧ K v := by
  intro args p Q h hp K hK
  unfold qAtOver at h
  split at h <;> cases h
  have b := nval_lt hp.1
  refine ⟨_, c_atover hst hp.1 hp.2.1 hp.2.2, vNat_is (Int.ediv_nonneg b.1 (Int.le_of_lt hp.2.2)) ?_ hK⟩
  exact Int.lt_of_le_of_lt (Int.ediv_le_self _ b.1) b.2
theorem s_Sr : Sound Tryz.prog Φ ΓSr :=
  Sound.qcons (by kernel_rfl) (h_atmul hst) (Sound.qcons (by kernel_rfl) (h_atover hst) (Sound.qcons (by kernel_rfl) (h_atsub hst) (Sound.qcons (by kernel_rfl) (h_atadd hst) Sound.nil)))
end
theorem ser_zero (Q : Int) : ∀ (k : Nat) (s n : Int) (m : Bool), serI Q k s 0 n m = s
  | 0, _, _, _ => rfl
  | _ + 1, _, _, _ => if_pos rfl
theorem tm_le {T Q : Int} (t0 : 0 ≤ T) (q0 : 0 ≤ Q) (hq : Q ≤ W3) : 0 ≤ tmI T Q ∧ tmI T Q ≤ T := by
  unfold tmI
  refine ⟨Int.emod_nonneg _ (by decide), ?_⟩
  have h1 : T * Q / W3 ≤ T := by
    have : T * Q ≤ T * W3 := Int.mul_le_mul_of_nonneg_left hq t0
    apply Int.ediv_le_of_le_mul (by decide)
    exact this
  have h0 : 0 ≤ T * Q / W3 := Int.ediv_nonneg (Int.mul_nonneg t0 q0) (by decide)
  have h2 : T * Q / W3 % W4 ≤ T * Q / W3 := by
    generalize T * Q / W3 = p at *
    unfold W4
    omega
  exact Int.le_trans h2 h1
variable {Φ : World → Prop} (hst : ∀ w w', Φ w → Below w.heap.size w w' → Φ w')
include hst
theorem c_atseries {a b c d x y z u n : Int} (hA : U4 a b c d) (hB : U4 x y z u) (hq : SqOk (nval x y z u) n) : Ans Tryz.prog Φ 174 [vN a b c d, vN x y z u, .int .u64 n] (vNat (serI (nval x y z u) 300 (nval a b c d) (nval a b c d) n true)) := by
  refine fn_by hst (s_Sr hst) (vc_atseries a b c d x y z u n _) ?_
  obtain ⟨q1, q2, q3⟩ := hq
  have bA := nval_lt hA
  have bB := nval_lt hB
  have e0 : n = n + 2 * ((0 : Nat) : Int) := by omega
  refine ⟨⟨0, a, b, c, d, a, b, c, d, true⟩, ⟨e0, rfl, rfl, rfl, rfl, rfl, rfl, rfl, rfl, rfl, rfl, rfl, rfl, rfl, rfl, rfl, rfl, rfl, rfl, rfl, rfl, rfl, trivial⟩, ⟨Nat.zero_le _, hA, hA, ?_, ?_⟩, ?_⟩
  · show nval a b c d * 2 ^ 0 ≤ W4
    rw [Int.pow_zero, Int.mul_one]
    exact Int.le_of_lt bA.2
  · show serI _ 300 _ _ n true = serI _ (300 - 0) _ _ (n + 2 * ((0 : Nat) : Int)) true
    rw [← e0]
  rintro ⟨k, a1, b1, c1, d1, x1, y1, z1, u1, m⟩ ⟨le, us, ut, pw, eq⟩
  have bT := nval_lt ut
  dsimp only at *
  refine bcase_iff.mpr ⟨fun q => ?_, fun q => ?_⟩
  · have tne : nval x1 y1 z1 u1 ≠ 0 := by
      intro e
      obtain ⟨⟨g1, _⟩, ⟨g2, _⟩, ⟨g3, _⟩, g4, _⟩ := ut
      unfold nval at e
      have h1 : x1 = 0 := by omega
      have h2 : y1 = 0 := by omega
      have h3 : z1 = 0 := by omega
      have h4 : u1 = 0 := by omega
      subst h1 h2 h3 h4
      exact absurd q (by decide)
    have k256 : k ≤ 256 := by
      apply Nat.le_of_not_lt
      intro hk
      have e : k = 256 + 1 := by omega
      rw [e, Int.pow_succ, show (2 : Int) ^ 256 = W4 by decide] at pw
      unfold W4 at pw
      omega
    have w1 : IntKind.u64.wrap (n + 2 * (k : Int) + 1) = n + 2 * (k : Int) + 1 := wrap_u64 (by omega)
    have w2 : IntKind.u64.wrap (n + 2 * (k : Int) + 2) = n + 2 * (k : Int) + 2 := wrap_u64 (by omega)
    have d0 : (0 + 1) * (0 + 2) ≤ (n + 2 * (k : Int) + 1) * (n + 2 * (k : Int) + 2) := Int.mul_le_mul (by omega) (by omega) (by decide) (by omega)
    have d1' : (n + 2 * (k : Int) + 1) * (n + 2 * (k : Int) + 2) ≤ 1000 * 1000 := Int.mul_le_mul (by omega) (by omega) (by omega) (by decide)
    rw [w1, w2]
    have w3 : IntKind.u64.wrap ((n + 2 * (k : Int) + 1) * (n + 2 * (k : Int) + 2)) = (n + 2 * (k : Int) + 1) * (n + 2 * (k : Int) + 2) := wrap_u64 (by omega)
    rw [w3]
    have tb := tm_le bT.1 bB.1 q1
    have step : ∀ S : Int, serI (nval x y z u) (300 - k) S (nval x1 y1 z1 u1) (n + 2 * (k : Int)) m = serI (nval x y z u) (300 - (k + 1)) (if m = true then (S - tmI (nval x1 y1 z1 u1) (nval x y z u) / ((n + 2 * (k : Int) + 1) * (n + 2 * (k : Int) + 2))) % W4 else (S + tmI (nval x1 y1 z1 u1) (nval x y z u) / ((n + 2 * (k : Int) + 1) * (n + 2 * (k : Int) + 2))) % W4) (tmI (nval x1 y1 z1 u1) (nval x y z u) / ((n + 2 * (k : Int) + 1) * (n + 2 * (k : Int) + 2))) (n + 2 * ((k + 1 : Nat) : Int)) (!m) := by
      intro S
      rw [show 300 - k = (300 - (k + 1)) + 1 by omega]
      conv => lhs; unfold serI
      rw [if_neg tne, show n + 2 * (k : Int) + 2 = n + 2 * ((k + 1 : Nat) : Int) by omega]
    rw [step] at eq
    generalize (n + 2 * (k : Int) + 1) * (n + 2 * (k : Int) + 2) = D at *
    refine ⟨⟨ut, hB⟩, fun e f g h hE => ⟨⟨hE.1, ⟨by omega, by omega⟩, (by omega : 0 < D)⟩, fun e1 f1 g1 h1 hT => ?_⟩⟩
    rw [hE.2] at hT
    have vT := hT.2
    have t2 : nval e1 f1 g1 h1 * 2 ≤ nval x1 y1 z1 u1 := by
      rw [vT]
      have h5 : tmI (nval x1 y1 z1 u1) (nval x y z u) / D * D ≤ tmI (nval x1 y1 z1 u1) (nval x y z u) := Int.ediv_mul_le _ (by omega)
      have h6 : 0 ≤ tmI (nval x1 y1 z1 u1) (nval x y z u) / D := Int.ediv_nonneg tb.1 (by omega)
      have h7 : tmI (nval x1 y1 z1 u1) (nval x y z u) / D * 2 ≤ tmI (nval x1 y1 z1 u1) (nval x y z u) / D * D := Int.mul_le_mul_of_nonneg_left (by omega) h6
      omega
    have pw' : nval e1 f1 g1 h1 * 2 ^ (k + 1) ≤ W4 := by
      have h8 : nval e1 f1 g1 h1 * 2 ^ (k + 1) = nval e1 f1 g1 h1 * 2 * 2 ^ k := by rw [Int.pow_succ, Int.mul_assoc, Int.mul_comm 2]
      rw [h8]
      exact Int.le_trans (Int.mul_le_mul_of_nonneg_right t2 (Int.le_of_lt (Int.pow_pos (by decide)))) pw
    rw [← vT] at eq
    have wn : n + 2 * (k : Int) + 2 = n + 2 * ((k + 1 : Nat) : Int) := by omega
    cases m with
    | true =>
      rw [bcase_true]
      refine ⟨⟨us, hT.1⟩, fun e2 f2 g2 h2 hS => ⟨⟨k + 1, e2, f2, g2, h2, e1, f1, g1, h1, false⟩, ⟨wn, rfl, rfl, rfl, rfl, rfl, rfl, rfl, rfl, rfl, rfl, rfl, rfl, rfl, rfl, rfl, rfl, rfl, rfl, rfl, rfl, rfl, trivial⟩, ⟨by show k + 1 ≤ 257; omega, hS.1, hT.1, pw', ?_⟩, by show 300 - (k + 1) < 300 - k; omega⟩⟩
      rw [if_pos rfl, ← hS.2] at eq
      exact eq
    | false =>
      rw [bcase_false]
      refine ⟨⟨us, hT.1⟩, fun e2 f2 g2 h2 hS => ⟨⟨k + 1, e2, f2, g2, h2, e1, f1, g1, h1, true⟩, ⟨wn, rfl, rfl, rfl, rfl, rfl, rfl, rfl, rfl, rfl, rfl, rfl, rfl, rfl, rfl, rfl, rfl, rfl, rfl, rfl, rfl, rfl, trivial⟩, ⟨by show k + 1 ≤ 257; omega, hS.1, hT.1, pw', ?_⟩, by show 300 - (k + 1) < 300 - k; omega⟩⟩
      rw [if_neg (by decide), ← hS.2] at eq
      exact eq
  · have tz : nval x1 y1 z1 u1 = 0 := by
      simp at q
      obtain ⟨rfl, rfl, rfl, rfl⟩ := q
      rfl
    refine isN_v ⟨us, ?_⟩
    rw [eq, tz, ser_zero]
end Go.Proofs.YtjdcicjhpegphaaGreat
/- Sine and cosine of an angle, and whether a direction reaches an angle: what the functions answer. -/
namespace Go.Proofs.YtjdcicjhpegphaaGreat
open Go Go.Abs Go.RowKit
def piC : Int := nval 3 2611923443488327891 1376283091369227076 11820040416388919760
def angC (k : Int) : Int := piC * k % W4 / 10800000
def sinC0 (k : Int) : Int := serI (tmI (angC k) (angC k)) 300 (angC k) (angC k) 1 true
def cosC0 (k : Int) : Int := serI (tmI (angC k) (angC k)) 300 W3 W3 0 true
def sinC (k : Int) : Int := if k > 2700000 then cosC0 (5400000 - k) else sinC0 k
def cosC (k : Int) : Int := if k > 2700000 then sinC0 (5400000 - k) else cosC0 k
def LoK (k : Int) : Prop := 0 ≤ k ∧ k ≤ 2700000
def QuK (k : Int) : Prop := 0 ≤ k ∧ k ≤ 5400000
def qCirN : QSpec := fun | [.int .i64 k] => some (False, fun K => K (num 0)) | _ => none
def qCirL : QSpec := fun | [.int .i64 k] => some (LoK k, fun K => ∀ a b c d x y z u, IsN (sinC0 k) a b c d → IsN (cosC0 k) x y z u → K (pair (vN a b c d) (vN x y z u))) | _ => none
def qCir : QSpec := fun | [.int .i64 k] => some (QuK k, fun K => ∀ a b c d x y z u, IsN (sinC k) a b c d → IsN (cosC k) x y z u → K (pair (vN a b c d) (vN x y z u))) | _ => none
def ΓCi (q : QSpec) : List (FuncId × CSpec) := [(161, .q q), (162, .q qAtTimes), (172, .q qAtOver), (173, .q qAtMul), (174, .q qSer)]
def reaB (x y k : Int) : Bool := if k = 0 then true else if k = 2700000 then decide (x ≤ y) else !decide (cosC k * y % W4 < sinC k * x % W4)
def PtOk (x y : Int) : Prop := 0 ≤ x ∧ x ≤ 1099511627776 ∧ 0 ≤ y ∧ y ≤ 1099511627776
def ΓRe : List (FuncId × CSpec) := [(161, .q qCir), (162, .q qAtTimes), (163, .v sAtLess)]
end Go.Proofs.YtjdcicjhpegphaaGreat
/- Sine and cosine of an angle, and whether a direction reaches an angle: what the functions ask. -/
namespace Go.Proofs.YtjdcicjhpegphaaGreat
open Go Go.Abs Go.RowKit
theorem vc_circle0 (k : Int) (K : Value → Prop) : callsX Tryz.prog (ΓCi qCirN) (noAnn) 161 [num k] K = (
 bcase (decide (k > 2700000)) (False ∧ False)
 ((U4 3 2611923443488327891 1376283091369227076 11820040416388919760 ∧ U64 (IntKind.u64.wrap k)) ∧
 ∀ (e f g h : Int),
 IsN (nval 3 2611923443488327891 1376283091369227076 11820040416388919760 * IntKind.u64.wrap k % W4) e f g h →
 (U4 e f g h ∧ U64 10800000 ∧ PosI 10800000) ∧
 ∀ (e_1 f_1 g_1 h_2 : Int),
 IsN (nval e f g h / 10800000) e_1 f_1 g_1 h_2 →
 (U4 e_1 f_1 g_1 h_2 ∧ U4 e_1 f_1 g_1 h_2) ∧
 ∀ (e f g h : Int),
 IsN (tmI (nval e_1 f_1 g_1 h_2) (nval e_1 f_1 g_1 h_2)) e f g h →
 (U4 e_1 f_1 g_1 h_2 ∧ U4 e f g h ∧ SqOk (nval e f g h) 1) ∧
 ∀ (e_2 f_2 g_2 h_4 : Int),
 IsN (serI (nval e f g h) 300 (nval e_1 f_1 g_1 h_2) (nval e_1 f_1 g_1 h_2) 1 true) e_2 f_2 g_2 h_4 →
 (U4 1 0 0 0 ∧ U4 e f g h ∧ SqOk (nval e f g h) 0) ∧
 ∀ (e_3 f_3 g_3 h_6 : Int), IsN (serI (nval e f g h) 300 (nval 1 0 0 0) (nval 1 0 0 0) 0 true) e_3 f_3 g_3 h_6 → K (Value.tuple #[Value.agg #[Value.int IntKind.u64 e_2, Value.int IntKind.u64 f_2, Value.int IntKind.u64 g_2, Value.int IntKind.u64 h_4], Value.agg #[Value.int IntKind.u64 e_3, Value.int IntKind.u64 f_3, Value.int IntKind.u64 g_3, Value.int IntKind.u64 h_6]]))) := by kernel_rfl
theorem vc_circle1 (k : Int) (K : Value → Prop) : callsX Tryz.prog (ΓCi qCirL) (noAnn) 161 [num k] K = (
 bcase (decide (k > 2700000))
 (LoK (IntKind.i64.wrap (5400000 - k)) ∧
 ∀ (a b c d x y z u : Int), IsN (sinC0 (IntKind.i64.wrap (5400000 - k))) a b c d → IsN (cosC0 (IntKind.i64.wrap (5400000 - k))) x y z u → K (Value.tuple #[Value.agg #[Value.int IntKind.u64 x, Value.int IntKind.u64 y, Value.int IntKind.u64 z, Value.int IntKind.u64 u], Value.agg #[Value.int IntKind.u64 a, Value.int IntKind.u64 b, Value.int IntKind.u64 c, Value.int IntKind.u64 d]]))
 ((U4 3 2611923443488327891 1376283091369227076 11820040416388919760 ∧ U64 (IntKind.u64.wrap k)) ∧
 ∀ (e f g h : Int),
 IsN (nval 3 2611923443488327891 1376283091369227076 11820040416388919760 * IntKind.u64.wrap k % W4) e f g h →
 (U4 e f g h ∧ U64 10800000 ∧ PosI 10800000) ∧
 ∀ (e_1 f_1 g_1 h_2 : Int),
 IsN (nval e f g h / 10800000) e_1 f_1 g_1 h_2 →
 (U4 e_1 f_1 g_1 h_2 ∧ U4 e_1 f_1 g_1 h_2) ∧
 ∀ (e f g h : Int),
 IsN (tmI (nval e_1 f_1 g_1 h_2) (nval e_1 f_1 g_1 h_2)) e f g h →
 (U4 e_1 f_1 g_1 h_2 ∧ U4 e f g h ∧ SqOk (nval e f g h) 1) ∧
 ∀ (e_2 f_2 g_2 h_4 : Int),
 IsN (serI (nval e f g h) 300 (nval e_1 f_1 g_1 h_2) (nval e_1 f_1 g_1 h_2) 1 true) e_2 f_2 g_2 h_4 →
 (U4 1 0 0 0 ∧ U4 e f g h ∧ SqOk (nval e f g h) 0) ∧
 ∀ (e_3 f_3 g_3 h_6 : Int), IsN (serI (nval e f g h) 300 (nval 1 0 0 0) (nval 1 0 0 0) 0 true) e_3 f_3 g_3 h_6 → K (Value.tuple #[Value.agg #[Value.int IntKind.u64 e_2, Value.int IntKind.u64 f_2, Value.int IntKind.u64 g_2, Value.int IntKind.u64 h_4], Value.agg #[Value.int IntKind.u64 e_3, Value.int IntKind.u64 f_3, Value.int IntKind.u64 g_3, Value.int IntKind.u64 h_6]]))) := by kernel_rfl
theorem vc_reaches (x y k : Int) (K : Value → Prop) : callsX Tryz.prog (ΓRe) (noAnn) 147 [wid x y, num k] K = (
 bcase (k == 0) (K (Value.bool true))
 (bcase (k == 2700000) (K (Value.bool (decide (x ≤ y))))
 (QuK k ∧
 ∀ (a b c d x_1 y_1 z u : Int),
 IsN (sinC k) a b c d →
 IsN (cosC k) x_1 y_1 z u → (U4 x_1 y_1 z u ∧ U64 (IntKind.u64.wrap y)) ∧ ∀ (e f g h : Int), IsN (nval x_1 y_1 z u * IntKind.u64.wrap y % W4) e f g h → (U4 a b c d ∧ U64 (IntKind.u64.wrap x)) ∧ ∀ (e_1 f_1 g_1 h_2 : Int), IsN (nval a b c d * IntKind.u64.wrap x % W4) e_1 f_1 g_1 h_2 → (U4 e f g h ∧ U4 e_1 f_1 g_1 h_2) ∧ K (Value.bool !decide (nval e f g h < nval e_1 f_1 g_1 h_2))))) := by kernel_rfl
end Go.Proofs.YtjdcicjhpegphaaGreat
/- Sine and cosine of an angle, and whether a direction reaches an angle: contracts. -/
namespace Go.Proofs.YtjdcicjhpegphaaGreat
open Go Go.Abs Go.RowKit
theorem u4_pi : U4 3 2611923443488327891 1376283091369227076 11820040416388919760 := ⟨⟨by decide, by decide⟩, ⟨by decide, by decide⟩, ⟨by decide, by decide⟩, by decide, by decide⟩
theorem u4_one : U4 1 0 0 0 := ⟨⟨by decide, by decide⟩, ⟨by decide, by decide⟩, ⟨by decide, by decide⟩, by decide, by decide⟩
theorem one_n : nval 1 0 0 0 = W3 := by decide
theorem ang_b {k : Int} (h : LoK k) : 0 ≤ angC k ∧ angC k ≤ W3 := by
  obtain ⟨h0, h1⟩ := h
  have e : piC * k % W4 = piC * k := Int.emod_eq_of_lt (by unfold piC nval; omega) (by unfold piC nval W4; omega)
  unfold angC
  rw [e]
  unfold piC nval W3
  omega
theorem sq_b {t : Int} (h : 0 ≤ t ∧ t ≤ W3) : 0 ≤ tmI t t ∧ tmI t t ≤ W3 := by
  have := tm_le h.1 h.1 h.2
  exact ⟨this.1, Int.le_trans this.2 h.2⟩
theorem ser_b (Q : Int) : ∀ (k : Nat) (s t n : Int) (m : Bool), 0 ≤ s → s < W4 → 0 ≤ serI Q k s t n m ∧ serI Q k s t n m < W4
  | 0, s, t, n, m, h0, h1 => ⟨h0, h1⟩
  | k + 1, s, t, n, m, h0, h1 => by
    unfold serI
    split
    · exact ⟨h0, h1⟩
    · refine ser_b Q k _ _ _ _ ?_ ?_
      · split <;> exact Int.emod_nonneg _ (by decide)
      · split <;> exact Int.emod_lt_of_pos _ (by decide)
theorem w34 : W3 < W4 := by decide
theorem sin0_b {k : Int} (h : LoK k) : 0 ≤ sinC0 k ∧ sinC0 k < W4 := by
  have a := ang_b h
  exact ser_b _ _ _ _ _ _ a.1 (Int.lt_of_le_of_lt a.2 w34)
theorem cos0_b (k : Int) : 0 ≤ cosC0 k ∧ cosC0 k < W4 := ser_b _ _ _ _ _ _ (by decide) w34
theorem sinC_b {k : Int} (h : QuK k) : 0 ≤ sinC k ∧ sinC k < W4 := by
  unfold sinC
  split
  · exact cos0_b _
  · exact sin0_b ⟨h.1, by omega⟩
theorem cosC_b {k : Int} (h : QuK k) : 0 ≤ cosC k ∧ cosC k < W4 := by
  unfold cosC
  split
  · exact sin0_b ⟨by have := h.2; omega, by omega⟩
  · exact cos0_b _
variable {Φ : World → Prop} (hst : ∀ w w', Φ w → Below w.heap.size w w' → Φ w')
include hst
theorem h_atseries : ∀ args p Q, qSer args = some (p, Q) → p → ∀ K, Q K → ∃ v, Ans Tryz.prog Φ 174 args v ∧ K v := by
  intro args p Q h hp K hK
  unfold qSer at h
  split at h <;> cases h
  rename_i a b c d x y z u n
  have b1 := nval_lt hp.1
  have c1 := ser_b (nval x y z u) 300 (nval a b c d) (nval a b c d) n true b1.1 b1.2
  exact ⟨_, c_atseries hst hp.1 hp.2.1 hp.2.2, vNat_is c1.1 c1.2 hK⟩
theorem s_Ci {q : QSpec} (h : ∀ args p Q, q args = some (p, Q) → p → ∀ K, Q K → ∃ v, Ans Tryz.prog Φ 161 args v ∧ K v) : Sound Tryz.prog Φ (ΓCi q) :=
  Sound.qcons (by kernel_rfl) h (Sound.qcons (by kernel_rfl) (h_attimes hst) (Sound.qcons (by kernel_rfl) (h_atover hst) (Sound.qcons (by kernel_rfl) (h_atmul hst) (Sound.qcons (by kernel_rfl) (h_atseries hst) Sound.nil))))
omit hst in
theorem circ_part {k : Int} (h : LoK k) {K : Value → Prop} (hK : K (pair (vNat (sinC0 k)) (vNat (cosC0 k)))) :
    (U4 3 2611923443488327891 1376283091369227076 11820040416388919760 ∧ U64 (IntKind.u64.wrap k)) ∧
    ∀ (e f g h : Int),
    IsN (nval 3 2611923443488327891 1376283091369227076 11820040416388919760 * IntKind.u64.wrap k % W4) e f g h →
    (U4 e f g h ∧ U64 10800000 ∧ PosI 10800000) ∧
    ∀ (e_1 f_1 g_1 h_2 : Int),
    IsN (nval e f g h / 10800000) e_1 f_1 g_1 h_2 →
    (U4 e_1 f_1 g_1 h_2 ∧ U4 e_1 f_1 g_1 h_2) ∧
    ∀ (e f g h : Int),
    IsN (tmI (nval e_1 f_1 g_1 h_2) (nval e_1 f_1 g_1 h_2)) e f g h →
    (U4 e_1 f_1 g_1 h_2 ∧ U4 e f g h ∧ SqOk (nval e f g h) 1) ∧
    ∀ (e_2 f_2 g_2 h_4 : Int),
    IsN (serI (nval e f g h) 300 (nval e_1 f_1 g_1 h_2) (nval e_1 f_1 g_1 h_2) 1 true) e_2 f_2 g_2 h_4 →
    (U4 1 0 0 0 ∧ U4 e f g h ∧ SqOk (nval e f g h) 0) ∧
    ∀ (e_3 f_3 g_3 h_6 : Int), IsN (serI (nval e f g h) 300 (nval 1 0 0 0) (nval 1 0 0 0) 0 true) e_3 f_3 g_3 h_6 → K (pair (vN e_2 f_2 g_2 h_4) (vN e_3 f_3 g_3 h_6)) := by
  have wk : IntKind.u64.wrap k = k := wrap_u64 ⟨h.1, by have := h.2; omega⟩
  have a := ang_b h
  have s := sq_b a
  rw [wk]
  refine ⟨⟨u4_pi, h.1, by have := h.2; omega⟩, fun e f g hh h1 => ⟨⟨h1.1, ⟨by decide, by decide⟩, (by decide : (0 : Int) < 10800000)⟩, fun e1 f1 g1 hh1 h2 => ?_⟩⟩
  have v2 : nval e1 f1 g1 hh1 = angC k := by rw [h2.2, h1.2]; rfl
  refine ⟨⟨h2.1, h2.1⟩, fun e2 f2 g2 hh2 h3 => ?_⟩
  rw [v2] at h3
  have v3 := h3.2
  rw [v2, v3]
  refine ⟨⟨h2.1, h3.1, s.2, by decide, by decide⟩, fun e3 f3 g3 hh3 h4 => ⟨⟨u4_one, h3.1, s.2, by decide, by decide⟩, fun e4 f4 g4 hh4 h5 => ?_⟩⟩
  rw [one_n] at h5
  have i1 := isN_v h4
  have i2 := isN_v h5
  rw [i1, i2]
  exact hK
theorem c_circle0 {k : Int} (h : LoK k) : Ans Tryz.prog Φ 161 [num k] (pair (vNat (sinC0 k)) (vNat (cosC0 k))) := by
  refine fn_by hst (s_Ci hst (q := qCirN) fun args p Q h hp K hK => by unfold qCirN at h; split at h <;> cases h; exact hp.elim) (vc_circle0 k _) ?_
  refine bcase_iff.mpr ⟨fun q => absurd (of_decide_eq_true q) (by have := h.2; omega), fun q => ?_⟩
  exact circ_part h (K := fun v => v = pair (vNat (sinC0 k)) (vNat (cosC0 k))) rfl
theorem h_cirL : ∀ args p Q, qCirL args = some (p, Q) → p → ∀ K, Q K → ∃ v, Ans Tryz.prog Φ 161 args v ∧ K v := by
  intro args p Q h hp K hK
  unfold qCirL at h
  split at h <;> cases h
  have b1 := sin0_b hp
  refine ⟨_, c_circle0 hst hp, ?_⟩
  exact vNat_is (K := fun v => K (pair v (vNat (cosC0 _)))) b1.1 b1.2 fun a b c d i1 => vNat_is (K := fun v => K (pair (vN a b c d) v)) (cos0_b _).1 (cos0_b _).2 fun x y z u i2 => hK _ _ _ _ _ _ _ _ i1 i2
theorem c_circle {k : Int} (h : QuK k) : Ans Tryz.prog Φ 161 [num k] (pair (vNat (sinC k)) (vNat (cosC k))) := by
  refine fn_by hst (s_Ci hst (h_cirL hst)) (vc_circle1 k _) ?_
  refine bcase_iff.mpr ⟨fun q => ?_, fun q => ?_⟩
  · have q : k > 2700000 := of_decide_eq_true q
    have w : IntKind.i64.wrap (5400000 - k) = 5400000 - k := wrap_in (by have := h.2; omega)
    rw [w]
    refine ⟨⟨by have := h.2; omega, by omega⟩, fun a b c d x y z u i1 i2 => ?_⟩
    have e1 := isN_v i1
    have e2 := isN_v i2
    unfold sinC cosC
    rw [if_pos q, if_pos q, ← e1, ← e2]
  · have q : ¬ k > 2700000 := of_decide_eq_false q
    refine circ_part ⟨h.1, by omega⟩ (K := fun v => v = pair (vNat (sinC k)) (vNat (cosC k))) ?_
    unfold sinC cosC
    rw [if_neg q, if_neg q]
theorem h_cir : ∀ args p Q, qCir args = some (p, Q) → p → ∀ K, Q K → ∃ v, Ans Tryz.prog Φ 161 args v ∧ K v := by
  intro args p Q h hp K hK
  unfold qCir at h
  split at h <;> cases h
  have b1 := sinC_b hp
  have b2 := cosC_b hp
  refine ⟨_, c_circle hst hp, ?_⟩
  exact vNat_is (K := fun v => K (pair v (vNat (cosC _)))) b1.1 b1.2 fun a b c d i1 => vNat_is (K := fun v => K (pair (vN a b c d) v)) b2.1 b2.2 fun x y z u i2 => hK _ _ _ _ _ _ _ _ i1 i2
theorem c_atlessF : ∀ args p v, sAtLess args = some (p, v) → p → Ans Tryz.prog Φ 163 args v := by
  intro args p v h hp
  unfold sAtLess at h
  split at h <;> cases h
  exact c_atless hst hp.1 hp.2
theorem c_reaches {x y k : Int} (hk : QuK k) (h : PtOk x y) : Ans Tryz.prog Φ 147 [wid x y, num k] (.bool (reaB x y k)) := by
  refine fn_by hst (Sound.qcons (by kernel_rfl) (h_cir hst) (Sound.qcons (by kernel_rfl) (h_attimes hst) (Sound.cons (by kernel_rfl) (c_atlessF hst) Sound.nil))) (vc_reaches x y k _) ?_
  obtain ⟨x0, x1, y0, y1⟩ := h
  have wx : IntKind.u64.wrap x = x := wrap_u64 (by omega)
  have wy : IntKind.u64.wrap y = y := wrap_u64 (by omega)
  unfold reaB
  rw [wx, wy]
  refine bcase_iff.mpr ⟨fun q => ?_, fun q => bcase_iff.mpr ⟨fun q2 => ?_, fun q2 => ⟨hk, fun a b c d x1 y1 z u i1 i2 => ?_⟩⟩⟩
  · rw [if_pos (by simpa using q)]
  · rw [if_neg (by simpa using q), if_pos (by simpa using q2)]
  · rw [if_neg (by simpa using q), if_neg (by simpa using q2)]
    refine ⟨⟨i2.1, y0, by omega⟩, fun e f g hh j1 => ⟨⟨i1.1, x0, by omega⟩, fun e1 f1 g1 hh1 j2 => ⟨⟨j1.1, j2.1⟩, ?_⟩⟩⟩
    rw [j1.2, j2.2, i1.2, i2.2]
end Go.Proofs.YtjdcicjhpegphaaGreat
/- The angle of a point of the plane: what the functions answer. -/
namespace Go.Proofs.YtjdcicjhpegphaaGreat
open Go Go.Abs Go.RowKit
def qdI (x y : Int) : Int := if x > 0 ∧ y ≥ 0 then 0 else if y > 0 then 1 else if x < 0 then 2 else 3
def rxI (x y : Int) : Int := if x > 0 ∧ y ≥ 0 then x else if y > 0 then y else if x < 0 then -x else -y
def ryI (x y : Int) : Int := if x > 0 ∧ y ≥ 0 then y else if y > 0 then -x else if x < 0 then -y else x
def bsF (f : Int → Bool) : Nat → Int → Int → Int
  | 0, lo, _ => lo
  | k + 1, lo, hi => if hi - lo > 1 then (if f ((lo + hi) / 2) = true then bsF f k ((lo + hi) / 2) hi else bsF f k lo ((lo + hi) / 2)) else lo
def bsI (f : Int → Bool) (lo hi : Int) : Int := bsF f (hi - lo).toNat lo hi
theorem bsF_any (f : Int → Bool) : ∀ (n m : Nat) (lo hi : Int), (hi - lo).toNat ≤ n → (hi - lo).toNat ≤ m → bsF f n lo hi = bsF f m lo hi
  | 0, 0, _, _, _, _ => rfl
  | 0, m + 1, lo, hi, h, _ => by
    unfold bsF
    rw [if_neg (by omega)]
  | n + 1, 0, lo, hi, _, h => by
    unfold bsF
    rw [if_neg (by omega)]
  | n + 1, m + 1, lo, hi, h1, h2 => by
    unfold bsF
    split
    · split
      · exact bsF_any f n m _ _ (by omega) (by omega)
      · exact bsF_any f n m _ _ (by omega) (by omega)
    · rfl
theorem bsI_step (f : Int → Bool) {lo hi : Int} (h : hi - lo > 1) : bsI f lo hi = if f ((lo + hi) / 2) = true then bsI f ((lo + hi) / 2) hi else bsI f lo ((lo + hi) / 2) := by
  unfold bsI
  rw [show (hi - lo).toNat = ((hi - lo).toNat - 1) + 1 by omega]
  conv => lhs; unfold bsF
  rw [if_pos h]
  split
  · exact bsF_any f _ _ _ _ (by omega) (by omega)
  · exact bsF_any f _ _ _ _ (by omega) (by omega)
theorem bsI_end (f : Int → Bool) {lo hi : Int} (h : ¬ hi - lo > 1) : bsI f lo hi = lo := by
  unfold bsI
  generalize (hi - lo).toNat = n
  cases n with
  | zero => rfl
  | succ n => unfold bsF; rw [if_neg h]
theorem bsI_in (f : Int → Bool) : ∀ (n : Nat) (lo hi : Int), (hi - lo).toNat ≤ n → lo < hi → lo ≤ bsI f lo hi ∧ bsI f lo hi < hi
  | 0, lo, hi, h, k => by omega
  | n + 1, lo, hi, h, k => by
    by_cases c : hi - lo > 1
    · rw [bsI_step f c]
      split
      · have := bsI_in f n ((lo + hi) / 2) hi (by omega) (by omega)
        omega
      · have := bsI_in f n lo ((lo + hi) / 2) (by omega) (by omega)
        omega
    · rw [bsI_end f c]
      omega
def lowI (x y : Int) : Int := bsI (reaB (rxI x y) (ryI x y)) 0 5400000
def angP (x y : Int) : Int := 5400000 * qdI x y + lowI x y
def exaP (x y : Int) : Bool := if lowI x y = 0 ∧ ryI x y = 0 then true else decide (lowI x y = 2700000 ∧ rxI x y = ryI x y)
def PlOk (x y : Int) : Prop := -4294967296 ≤ x ∧ x ≤ 4294967296 ∧ -4294967296 ≤ y ∧ y ≤ 4294967296 ∧ (x ≠ 0 ∨ y ≠ 0)
structure RoR (x0 y0 x y t : Int) : Prop where
  ok : PlOk x y
  rx : rxI x y = rxI x0 y0
  ry : ryI x y = ryI x0 y0
  qd : t + 5400000 * qdI x y = 5400000 * qdI x0 y0
  t0 : 0 ≤ t
def annRo (x0 y0 : Int) : Ann where
  σ := Int × Int × Int
  st := fun s v => ⟨lset (keepA s 60 [1, 2, 3]) 4 (.v (.int .i64 v.2.2)), setCs s 0 [.v (.int .i64 v.1), .v (.int .i64 v.2.1)]⟩
  inv := fun _ v => RoR x0 y0 v.1 v.2.1 v.2.2
  μ := fun _ v => (qdI v.1 v.2.1).toNat
structure BsR (f : Int → Bool) (lo hi : Int) : Prop where
  l : 0 ≤ lo
  h : hi ≤ 5400000
  lt : lo < hi
  eq : bsI f lo hi = bsI f 0 5400000
def annBs (f : Int → Bool) : Ann where
  σ := Int × Int
  st := fun s v => ⟨lset (lset (keepA s 60 [1, 2, 3, 4]) 5 (.v (.int .i64 v.1))) 6 (.v (.int .i64 v.2)), s.hp⟩
  inv := fun _ v => BsR f v.1 v.2
  μ := fun _ v => (v.2 - v.1).toNat
def joinRo (x0 y0 : Int) : Ann where
  σ := Nat
  st := fun s _ => ⟨lset (keepA s 60 [1, 2, 3]) 4 (.v (.int .i64 (5400000 * qdI x0 y0))), setCs s 0 [.v (.int .i64 (rxI x0 y0)), .v (.int .i64 (ryI x0 y0))]⟩
  inv := fun _ _ => True
  μ := fun _ _ => 0
def sRea (f : Int → Int → Int → Bool) : FSpec := fun | [.agg ⟨[.int .i64 x, .int .i64 y]⟩, .int .i64 k] => some (QuK k ∧ PtOk x y, .bool (f x y k)) | _ => none
def ΓAn (f : Int → Int → Int → Bool) : List (FuncId × CSpec) := [(147, .v (sRea f))]
def AAn (f : Int → Int → Int → Bool) (x0 y0 : Int) : FuncId → List (Nat × LoopBy) := fun _ => [(0, .annJ (annRo x0 y0) (joinRo x0 y0)), (2, .ann (annBs (f (rxI x0 y0) (ryI x0 y0))))]
end Go.Proofs.YtjdcicjhpegphaaGreat
/- The angle of a point of the plane: what the functions ask. -/
namespace Go.Proofs.YtjdcicjhpegphaaGreat
open Go Go.Abs Go.RowKit
theorem vc_atangle (x y : Int) (f : Int → Int → Int → Bool) (K : Value → Prop) : callsX Tryz.prog (ΓAn f) (AAn f x y) 123 [wid x y] K = (
 (∀ (s : Nat),
 True →
 ∃ (s : Int × Int),
 (Int.ofNat 0 = 0 ∧ false = false ∧ 5400000 * qdI x y = 5400000 * qdI x y ∧ 0 = s.fst ∧ 5400000 = s.snd ∧ rxI x y = rxI x y ∧ ryI x y = ryI x y ∧ True) ∧
 BsR (f (rxI x y) (ryI x y)) s.fst s.snd ∧
 ∀ (s : Int × Int),
 BsR (f (rxI x y) (ryI x y)) s.fst s.snd →
 bcase (decide (IntKind.i64.wrap (s.snd - s.fst) > 1))
 ((QuK (IntKind.i64.wrap ((IntKind.i64.wrap (s.fst + s.snd)).tdiv 2)) ∧ PtOk (rxI x y) (ryI x y)) ∧
 bcase (f (rxI x y) (ryI x y) (IntKind.i64.wrap ((IntKind.i64.wrap (s.fst + s.snd)).tdiv 2)))
 (∃ (s_1 : Int × Int), (Int.ofNat 0 = 0 ∧ false = false ∧ 5400000 * qdI x y = 5400000 * qdI x y ∧ IntKind.i64.wrap ((IntKind.i64.wrap (s.fst + s.snd)).tdiv 2) = s_1.fst ∧ s.snd = s_1.snd ∧ rxI x y = rxI x y ∧ ryI x y = ryI x y ∧ True) ∧ BsR (f (rxI x y) (ryI x y)) s_1.fst s_1.snd ∧ (s_1.snd - s_1.fst).toNat < (s.snd - s.fst).toNat)
 (∃ (s_1 : Int × Int), (Int.ofNat 0 = 0 ∧ false = false ∧ 5400000 * qdI x y = 5400000 * qdI x y ∧ s.fst = s_1.fst ∧ IntKind.i64.wrap ((IntKind.i64.wrap (s.fst + s.snd)).tdiv 2) = s_1.snd ∧ rxI x y = rxI x y ∧ ryI x y = ryI x y ∧ True) ∧ BsR (f (rxI x y) (ryI x y)) s_1.fst s_1.snd ∧ (s_1.snd - s_1.fst).toNat < (s.snd - s.fst).toNat))
 (bcase (s.fst == 0)
 (bcase (ryI x y == 0) (K (Value.tuple #[Value.int IntKind.i64 (IntKind.i64.wrap (5400000 * qdI x y + s.fst)), Value.bool true])) (bcase (s.fst == 2700000) (K (Value.tuple #[Value.int IntKind.i64 (IntKind.i64.wrap (5400000 * qdI x y + s.fst)), Value.bool (rxI x y == ryI x y)])) (K (Value.tuple #[Value.int IntKind.i64 (IntKind.i64.wrap (5400000 * qdI x y + s.fst)), Value.bool false]))))
 (bcase (s.fst == 2700000) (K (Value.tuple #[Value.int IntKind.i64 (IntKind.i64.wrap (5400000 * qdI x y + s.fst)), Value.bool (rxI x y == ryI x y)])) (K (Value.tuple #[Value.int IntKind.i64 (IntKind.i64.wrap (5400000 * qdI x y + s.fst)), Value.bool false]))))) ∧
 ∃ (s : Int × Int × Int),
 (Int.ofNat 0 = 0 ∧ false = false ∧ 0 = s.snd.snd ∧ x = s.fst ∧ y = s.snd.fst ∧ True) ∧
 RoR x y s.fst s.snd.fst s.snd.snd ∧
 ∀ (s : Int × Int × Int),
 RoR x y s.fst s.snd.fst s.snd.snd →
 bcase (decide (s.fst > 0))
 (bcase (!decide (s.snd.fst ≥ 0)) (∃ (s_1 : Int × Int × Int), (Int.ofNat 0 = 0 ∧ false = false ∧ IntKind.i64.wrap (s.snd.snd + 5400000) = s_1.snd.snd ∧ s.snd.fst = s_1.fst ∧ IntKind.i64.wrap (0 - s.fst) = s_1.snd.fst ∧ True) ∧ RoR x y s_1.fst s_1.snd.fst s_1.snd.snd ∧ (qdI s_1.fst s_1.snd.fst).toNat < (qdI s.fst s.snd.fst).toNat)
 (∃ (s_1 : Nat), (Int.ofNat 0 = 0 ∧ false = false ∧ s.snd.snd = 5400000 * qdI x y ∧ s.fst = rxI x y ∧ s.snd.fst = ryI x y ∧ True) ∧ True))
 (∃ (s_1 : Int × Int × Int), (Int.ofNat 0 = 0 ∧ false = false ∧ IntKind.i64.wrap (s.snd.snd + 5400000) = s_1.snd.snd ∧ s.snd.fst = s_1.fst ∧ IntKind.i64.wrap (0 - s.fst) = s_1.snd.fst ∧ True) ∧ RoR x y s_1.fst s_1.snd.fst s_1.snd.snd ∧ (qdI s_1.fst s_1.snd.fst).toNat < (qdI s.fst s.snd.fst).toNat)) := by kernel_rfl
theorem vc_atbefore (x y z u : Int) (K : Value → Prop) : callsX Tryz.prog ([]) (noAnn) 122 [wid x y, wid z u] K = (
 K (Value.bool (decide (IntKind.i64.wrap (x * u) ≥ IntKind.i64.wrap (y * z))))) := by kernel_rfl
end Go.Proofs.YtjdcicjhpegphaaGreat
/- The angle of a point of the plane: contracts. -/
namespace Go.Proofs.YtjdcicjhpegphaaGreat
open Go Go.Abs Go.RowKit
theorem rx_pos {x y : Int} (h : PlOk x y) : 0 < rxI x y ∧ 0 ≤ ryI x y ∧ rxI x y ≤ 4294967296 ∧ ryI x y ≤ 4294967296 := by
  obtain ⟨h1, h2, h3, h4, h5⟩ := h
  unfold rxI ryI
  split
  · omega
  · split
    · omega
    · split
      · omega
      · omega
theorem qd_range (x y : Int) : 0 ≤ qdI x y ∧ qdI x y ≤ 3 := by
  unfold qdI
  split
  · omega
  · split
    · omega
    · split <;> omega
theorem turn_one {x y : Int} (h : PlOk x y) (c : ¬ (x > 0 ∧ y ≥ 0)) : PlOk y (0 - x) ∧ rxI y (0 - x) = rxI x y ∧ ryI y (0 - x) = ryI x y ∧ qdI y (0 - x) + 1 = qdI x y := by
  obtain ⟨h1, h2, h3, h4, h5⟩ := h
  refine ⟨⟨h3, h4, by omega, by omega, by omega⟩, ?_⟩
  by_cases a : y > 0
  · have b : y > 0 ∧ 0 - x ≥ 0 := ⟨a, by omega⟩
    unfold rxI ryI qdI
    rw [if_neg c, if_neg c, if_neg c, if_pos a, if_pos a, if_pos a, if_pos b, if_pos b, if_pos b]
    omega
  · by_cases d : x < 0
    · have b : ¬ (y > 0 ∧ 0 - x ≥ 0) := fun e => a e.1
      have e : 0 - x > 0 := by omega
      unfold rxI ryI qdI
      rw [if_neg c, if_neg c, if_neg c, if_neg a, if_neg a, if_neg a, if_pos d, if_pos d, if_pos d, if_neg b, if_neg b, if_neg b, if_pos e, if_pos e, if_pos e]
      omega
    · have b : ¬ (y > 0 ∧ 0 - x ≥ 0) := fun e => a e.1
      have e : ¬ 0 - x > 0 := by omega
      have g : y < 0 := by omega
      unfold rxI ryI qdI
      rw [if_neg c, if_neg c, if_neg c, if_neg a, if_neg a, if_neg a, if_neg d, if_neg d, if_neg d, if_neg b, if_neg b, if_neg b, if_neg e, if_neg e, if_neg e, if_pos g, if_pos g, if_pos g]
      omega
theorem turn_none {x y : Int} (c : x > 0 ∧ y ≥ 0) : rxI x y = x ∧ ryI x y = y ∧ qdI x y = 0 := by
  unfold rxI ryI qdI
  rw [if_pos c, if_pos c, if_pos c]
  exact ⟨rfl, rfl, rfl⟩
variable {Φ : World → Prop} (hst : ∀ w w', Φ w → Below w.heap.size w w' → Φ w')
include hst
theorem c_atangle {x y : Int} (h : PlOk x y) : Ans Tryz.prog Φ 123 [wid x y] (pair (num (angP x y)) (.bool (exaP x y))) := by
  refine fn_by hst (Γ := ΓAn reaB) (Sound.cons (by kernel_rfl) (fun args p v hh hp => by unfold sRea at hh; split at hh <;> cases hh; exact c_reaches hst hp.1 hp.2) Sound.nil) (vc_atangle x y reaB _) ?_
  have rp := rx_pos h
  have qr := qd_range x y
  refine ⟨fun _ _ => ?_, ?_⟩
  · refine ⟨(0, 5400000), ⟨rfl, rfl, rfl, rfl, rfl, rfl, rfl, trivial⟩, ⟨Int.le_refl _, Int.le_refl _, by decide, rfl⟩, ?_⟩
    rintro ⟨lo, hi⟩ ⟨b1, b2, b3, b4⟩
    have b4 : bsI (reaB (rxI x y) (ryI x y)) lo hi = lowI x y := b4
    dsimp only at *
    have w1 : IntKind.i64.wrap (hi - lo) = hi - lo := wrap_in (by omega)
    have w2 : IntKind.i64.wrap (lo + hi) = lo + hi := wrap_in (by omega)
    have w3 : (lo + hi).tdiv 2 = (lo + hi) / 2 := Int.tdiv_eq_ediv_of_nonneg (by omega)
    have w4 : IntKind.i64.wrap ((lo + hi) / 2) = (lo + hi) / 2 := wrap_in (by omega)
    have w5 : IntKind.i64.wrap (5400000 * qdI x y + lo) = 5400000 * qdI x y + lo := wrap_in (by omega)
    rw [w1, w2, w3, w4, w5]
    refine bcase_iff.mpr ⟨fun q => ?_, fun q => ?_⟩
    · have q : hi - lo > 1 := of_decide_eq_true q
      rw [bsI_step _ q] at b4
      refine ⟨⟨⟨by omega, by omega⟩, ⟨by omega, by omega, by omega, by omega⟩⟩, bcase_iff.mpr ⟨fun r => ?_, fun r => ?_⟩⟩
      · rw [if_pos r] at b4
        exact ⟨((lo + hi) / 2, hi), ⟨rfl, rfl, rfl, rfl, rfl, rfl, rfl, trivial⟩, ⟨by show 0 ≤ (lo + hi) / 2; omega, b2, by show (lo + hi) / 2 < hi; omega, b4⟩, by show (hi - (lo + hi) / 2).toNat < (hi - lo).toNat; omega⟩
      · rw [if_neg (by rw [r]; decide)] at b4
        exact ⟨(lo, (lo + hi) / 2), ⟨rfl, rfl, rfl, rfl, rfl, rfl, rfl, trivial⟩, ⟨b1, by show (lo + hi) / 2 ≤ 5400000; omega, by show lo < (lo + hi) / 2; omega, b4⟩, by show ((lo + hi) / 2 - lo).toNat < (hi - lo).toNat; omega⟩
    · have q : ¬ hi - lo > 1 := of_decide_eq_false q
      rw [bsI_end _ q] at b4
      unfold angP exaP
      rw [← b4]
      refine bcase_iff.mpr ⟨fun r => bcase_iff.mpr ⟨fun r2 => ?_, fun r2 => bcase_iff.mpr ⟨fun r3 => ?_, fun r3 => ?_⟩⟩, fun r => bcase_iff.mpr ⟨fun r3 => ?_, fun r3 => ?_⟩⟩
      all_goals simp at r
      all_goals (try simp at r2)
      all_goals (try simp at r3)
      all_goals simp_all
      all_goals rfl
  · refine ⟨(x, y, 0), ⟨rfl, rfl, rfl, rfl, rfl, trivial⟩, ⟨h, rfl, rfl, by show 0 + 5400000 * qdI x y = 5400000 * qdI x y; omega, Int.le_refl _⟩, ?_⟩
    rintro ⟨a, b, t⟩ ⟨o, r1, r2, r3, r4⟩
    dsimp only at *
    have qa := qd_range a b
    have go : ¬ (a > 0 ∧ b ≥ 0) → ∃ (s_1 : Int × Int × Int), (Int.ofNat 0 = 0 ∧ false = false ∧ IntKind.i64.wrap (t + 5400000) = s_1.snd.snd ∧ b = s_1.fst ∧ IntKind.i64.wrap (0 - a) = s_1.snd.fst ∧ True) ∧ RoR x y s_1.fst s_1.snd.fst s_1.snd.snd ∧ (qdI s_1.fst s_1.snd.fst).toNat < (qdI a b).toNat := by
      intro c
      obtain ⟨o1, o2, o3, o4⟩ := turn_one o c
      have qb := qd_range b (0 - a)
      obtain ⟨p1, p2, p3, p4, p5⟩ := o
      have w1 : IntKind.i64.wrap (t + 5400000) = t + 5400000 := wrap_in (by omega)
      have w2 : IntKind.i64.wrap (0 - a) = 0 - a := wrap_in (by omega)
      exact ⟨(b, 0 - a, t + 5400000), ⟨rfl, rfl, w1, rfl, w2, trivial⟩, ⟨o1, by rw [o2, r1], by rw [o3, r2], by show t + 5400000 + 5400000 * qdI b (0 - a) = 5400000 * qdI x y; omega, by show 0 ≤ t + 5400000; omega⟩, by show (qdI b (0 - a)).toNat < (qdI a b).toNat; omega⟩
    refine bcase_iff.mpr ⟨fun q => bcase_iff.mpr ⟨fun q2 => go fun c => ?_, fun q2 => ?_⟩, fun q => go fun c => ?_⟩
    · have := c.2
      simp at q2
      omega
    · have c : a > 0 ∧ b ≥ 0 := ⟨of_decide_eq_true q, by simpa using q2⟩
      obtain ⟨u1, u2, u3⟩ := turn_none c
      exact ⟨0, ⟨rfl, rfl, by omega, by omega, by omega, trivial⟩, trivial⟩
    · exact absurd c.1 (of_decide_eq_false q)
end Go.Proofs.YtjdcicjhpegphaaGreat
