/- Several texts in one: FixS, FixV, FixC, FixT, FixU, FixD, FixE, FixF, FixG. -/
import Derived.Test.YtidhogcijghogaaGreatDoorTriC
import Derived.Test.YtidhogcijghogaaGreatDoorCtQ
import Derived.Test.YtidhogcijghogaaGreatDoorTrjA
/- Quotients of intervals, by the program and by the reference: what they answer. -/
namespace Go.Proofs.YtidhogcijghogaaGreatDoor
open Go Go.Abs Go.RowKit
set_option linter.unusedVariables false
/-- A number of an interval; a factor; a divisor. -/
def Q31 (n : Int) : Prop := -2147483648 ≤ n ∧ n ≤ 2147483648
def Q40 (n : Int) : Prop := -1099511627776 ≤ n ∧ n ≤ 1099511627776
instance (n : Int) : Decidable (Q40 n) := by unfold Q40; infer_instance
def FixV (a b : Int) : Prop := -2147483648 ≤ a ∧ a ≤ b ∧ b ≤ 2147483648
instance (a b : Int) : Decidable (FixV a b) := by unfold FixV; infer_instance
def flQ (x n d : Int) : Int := x * n / d
def ceQ (x n d : Int) : Int := -(-(x * n) / d)
/-- What enclose answers. -/
def eL (x n d : Int) : Int := gate (I64 (flQ x n d)) (flQ x n d)
def eH (x n d : Int) : Int := gate (I64 (flQ x n d) ∧ I64 (ceQ x n d)) (ceQ x n d)
def eE (x n d : Int) : Int := pick (I64 (flQ x n d) ∧ I64 (ceQ x n d)) 0 5
abbrev trip (a b c : Int) : Value := .tuple ⟨[num a, num b, num c]⟩
def sFxEnclose : FSpec := fun | [.int .i64 x, .int .i64 n, .int .i64 d] => some (Q31 x ∧ Q40 n ∧ 0 < d ∧ d ≤ 2147483648, trip (eL x n d) (eH x n d) (eE x n d)) | _ => none
def sFxValid : FSpec := fun | [.agg ⟨[.int .i64 a, .int .i64 b]⟩] => some (True, .bool (decide (FixV a b))) | _ => none
def sFxBoth : FSpec := fun | [.agg ⟨[.int .i64 a, .int .i64 b]⟩, .agg ⟨[.int .i64 c, .int .i64 d]⟩] => some (True, .bool (decide (FixV a b ∧ FixV c d))) | _ => none
def sFxFactor : FSpec := fun | [.int .i64 n] => some (True, .bool (decide (Q40 n))) | _ => none
def sFxZero : FSpec := fun | [.agg ⟨[.int .i64 a, .int .i64 b]⟩] => some (True, .bool (decide (a ≤ 0 ∧ 0 ≤ b))) | _ => none
/-- The ends of a quotient of intervals. -/
def qL (a b c d n : Int) : Int := min (min (flQ a n c) (flQ a n d)) (min (flQ b n c) (flQ b n d))
def qH (a b c d n : Int) : Int := max (max (ceQ a n c) (ceQ a n d)) (max (ceQ b n c) (ceQ b n d))
def okF (a b c d n : Int) : Prop := -1099511627776 ≤ qL a b c d n ∧ qH a b c d n ≤ 1099511627776
instance (a b c d n : Int) : Decidable (okF a b c d n) := by unfold okF; infer_instance
abbrev quoAns (a b c d n : Int) : Value := trip (gate (okF a b c d n) (qL a b c d n)) (gate (okF a b c d n) (qH a b c d n)) (pick (okF a b c d n) 0 5)
def ΓFe : List (FuncId × CSpec) := [(63, .v sWProduct), (64, .v sWFloor), (65, .v sWCeil)]
def ΓFb : List (FuncId × CSpec) := [(62, .v sFxValid)]
def ΓFq : List (FuncId × CSpec) := [(45, .v sFxBoth), (46, .v sFxFactor), (47, .v sFxZero), (48, .v sFxEnclose)]
def fiveF : FuncId → List (Nat × LoopBy) := fun _ => [(1, .times 5)]
end Go.Proofs.YtidhogcijghogaaGreatDoor

/- Quotients of intervals, by the program: what they ask. -/
namespace Go.Proofs.YtidhogcijghogaaGreatDoor
open Go Go.Abs Go.RowKit
set_option linter.unusedVariables false
set_option linter.unusedSimpArgs false
theorem vc_fxenclose (x n d : Int) (K : Value → Prop) : callsX Tryz.prog (ΓFe) (noAnn) 48 [num x, num n, num d] K = (
 (I64 x ∧ I64 n) ∧
 bcase (pick (F120 (x * n)) 0 5 != 0) (K (Value.tuple #[Value.int IntKind.i64 0, Value.int IntKind.i64 0, Value.int IntKind.i64 (pick (F120 (x * n)) 0 5)]))
 (I64 d ∧
 bcase (pick (WV (gate (F120 (x * n)) (hiO (x * n))) (gate (F120 (x * n)) (loO (x * n)))) (pick (d = 0) 16 (pick (I64 (quoI (val (gate (F120 (x * n)) (hiO (x * n))) (gate (F120 (x * n)) (loO (x * n)))) d false)) 0 5)) 1 != 0)
 (K (Value.tuple #[Value.int IntKind.i64 0, Value.int IntKind.i64 0, Value.int IntKind.i64 (pick (WV (gate (F120 (x * n)) (hiO (x * n))) (gate (F120 (x * n)) (loO (x * n)))) (pick (d = 0) 16 (pick (I64 (quoI (val (gate (F120 (x * n)) (hiO (x * n))) (gate (F120 (x * n)) (loO (x * n)))) d false)) 0 5)) 1)]))
 (I64 d ∧
 K
 (Value.tuple
 #[Value.int IntKind.i64 (gate (okQ (gate (F120 (x * n)) (hiO (x * n))) (gate (F120 (x * n)) (loO (x * n))) d false) (quoI (val (gate (F120 (x * n)) (hiO (x * n))) (gate (F120 (x * n)) (loO (x * n)))) d false)),
 Value.int IntKind.i64 (gate (okQ (gate (F120 (x * n)) (hiO (x * n))) (gate (F120 (x * n)) (loO (x * n))) d true) (quoI (val (gate (F120 (x * n)) (hiO (x * n))) (gate (F120 (x * n)) (loO (x * n)))) d true)),
 Value.int IntKind.i64 (pick (WV (gate (F120 (x * n)) (hiO (x * n))) (gate (F120 (x * n)) (loO (x * n)))) (pick (d = 0) 16 (pick (I64 (quoI (val (gate (F120 (x * n)) (hiO (x * n))) (gate (F120 (x * n)) (loO (x * n)))) d true)) 0 5)) 1)])))) := by kernel_rfl
theorem vc_fxvalid (a b : Int) (K : Value → Prop) : callsX Tryz.prog ([]) (noAnn) 62 [wid a b] K = (
 bcase (decide (a ≥ -2147483648)) (bcase (decide (a ≤ b)) (K (Value.bool (decide (b ≤ 2147483648)))) (K (Value.bool false))) (K (Value.bool false))) := by kernel_rfl
theorem vc_fxboth (a b c d : Int) (K : Value → Prop) : callsX Tryz.prog (ΓFb) (noAnn) 45 [wid a b, wid c d] K = (
 True ∧ bcase (decide (FixV a b)) (True ∧ K (Value.bool (decide (FixV c d)))) (K (Value.bool false))) := by kernel_rfl
theorem vc_fxfactor (n : Int) (K : Value → Prop) : callsX Tryz.prog ([]) (noAnn) 46 [num n] K = (
 bcase (decide (n ≥ -1099511627776)) (K (Value.bool (decide (n ≤ 1099511627776)))) (K (Value.bool false))) := by kernel_rfl
theorem vc_fxzero (a b : Int) (K : Value → Prop) : callsX Tryz.prog ([]) (noAnn) 47 [wid a b] K = (
 bcase (decide (a ≤ 0)) (K (Value.bool (decide (b ≥ 0)))) (K (Value.bool false))) := by kernel_rfl
theorem vc_fxquo (a b c d n : Int) (K : Value → Prop) : callsX Tryz.prog (ΓFq) (fiveF) 28 [wid a b, wid c d, num n] K = (
 True ∧
 bcase (!decide (FixV a b ∧ FixV c d)) (K (Value.tuple #[Value.int IntKind.i64 0, Value.int IntKind.i64 0, Value.int IntKind.i64 1]))
 (True ∧
 bcase (!decide (Q40 n)) (K (Value.tuple #[Value.int IntKind.i64 0, Value.int IntKind.i64 0, Value.int IntKind.i64 2]))
 (True ∧
 bcase (decide (c ≤ 0 ∧ 0 ≤ d)) (K (Value.tuple #[Value.int IntKind.i64 0, Value.int IntKind.i64 0, Value.int IntKind.i64 16]))
 ((Q31 a ∧ Q40 n ∧ 0 < c ∧ c ≤ 2147483648) ∧
 bcase (eE a n c != 0) (K (Value.tuple #[Value.int IntKind.i64 0, Value.int IntKind.i64 0, Value.int IntKind.i64 5]))
 ((Q31 a ∧ Q40 n ∧ 0 < d ∧ d ≤ 2147483648) ∧
 bcase (eE a n d != 0) (K (Value.tuple #[Value.int IntKind.i64 0, Value.int IntKind.i64 0, Value.int IntKind.i64 5]))
 ((Q31 b ∧ Q40 n ∧ 0 < c ∧ c ≤ 2147483648) ∧
 bcase (eE b n c != 0) (K (Value.tuple #[Value.int IntKind.i64 0, Value.int IntKind.i64 0, Value.int IntKind.i64 5]))
 ((Q31 b ∧ Q40 n ∧ 0 < d ∧ d ≤ 2147483648) ∧
 bcase (eE b n d != 0) (K (Value.tuple #[Value.int IntKind.i64 0, Value.int IntKind.i64 0, Value.int IntKind.i64 5]))
 (True ∧
 bcase
 (!decide
 (Q40
 (if eL b n d < if eL b n c < if eL a n d < if eL a n c < eL a n c then eL a n c else eL a n c then eL a n d else if eL a n c < eL a n c then eL a n c else eL a n c then eL b n c else if eL a n d < if eL a n c < eL a n c then eL a n c else eL a n c then eL a n d else if eL a n c < eL a n c then eL a n c else eL a n c then eL b n d
 else if eL b n c < if eL a n d < if eL a n c < eL a n c then eL a n c else eL a n c then eL a n d else if eL a n c < eL a n c then eL a n c else eL a n c then eL b n c else if eL a n d < if eL a n c < eL a n c then eL a n c else eL a n c then eL a n d else if eL a n c < eL a n c then eL a n c else eL a n c)))
 (K (Value.tuple #[Value.int IntKind.i64 0, Value.int IntKind.i64 0, Value.int IntKind.i64 5]))
 (True ∧
 bcase
 (!decide
 (Q40
 (if eH b n d > if eH b n c > if eH a n d > if eH a n c > eH a n c then eH a n c else eH a n c then eH a n d else if eH a n c > eH a n c then eH a n c else eH a n c then eH b n c else if eH a n d > if eH a n c > eH a n c then eH a n c else eH a n c then eH a n d else if eH a n c > eH a n c then eH a n c else eH a n c then eH b n d
 else if eH b n c > if eH a n d > if eH a n c > eH a n c then eH a n c else eH a n c then eH a n d else if eH a n c > eH a n c then eH a n c else eH a n c then eH b n c else if eH a n d > if eH a n c > eH a n c then eH a n c else eH a n c then eH a n d else if eH a n c > eH a n c then eH a n c else eH a n c)))
 (K (Value.tuple #[Value.int IntKind.i64 0, Value.int IntKind.i64 0, Value.int IntKind.i64 5]))
 (K
 (Value.tuple
 #[Value.int IntKind.i64
 (if eL b n d < if eL b n c < if eL a n d < if eL a n c < eL a n c then eL a n c else eL a n c then eL a n d else if eL a n c < eL a n c then eL a n c else eL a n c then eL b n c else if eL a n d < if eL a n c < eL a n c then eL a n c else eL a n c then eL a n d else if eL a n c < eL a n c then eL a n c else eL a n c then eL b n d
 else if eL b n c < if eL a n d < if eL a n c < eL a n c then eL a n c else eL a n c then eL a n d else if eL a n c < eL a n c then eL a n c else eL a n c then eL b n c else if eL a n d < if eL a n c < eL a n c then eL a n c else eL a n c then eL a n d else if eL a n c < eL a n c then eL a n c else eL a n c),
 Value.int IntKind.i64
 (if eH b n d > if eH b n c > if eH a n d > if eH a n c > eH a n c then eH a n c else eH a n c then eH a n d else if eH a n c > eH a n c then eH a n c else eH a n c then eH b n c else if eH a n d > if eH a n c > eH a n c then eH a n c else eH a n c then eH a n d else if eH a n c > eH a n c then eH a n c else eH a n c then eH b n d
 else if eH b n c > if eH a n d > if eH a n c > eH a n c then eH a n c else eH a n c then eH a n d else if eH a n c > eH a n c then eH a n c else eH a n c then eH b n c else if eH a n d > if eH a n c > eH a n c then eH a n c else eH a n c then eH a n d else if eH a n c > eH a n c then eH a n c else eH a n c),
 Value.int IntKind.i64 0]))))))))))) := by kernel_rfl
end Go.Proofs.YtidhogcijghogaaGreatDoor

/- Quotients of intervals, by the program: contracts. -/
namespace Go.Proofs.YtidhogcijghogaaGreatDoor
open Go Go.Abs Go.RowKit
set_option linter.unusedVariables false
set_option linter.unusedSimpArgs false
theorem xn_bound {x n : Int} (hx : Q31 x) (hn : Q40 n) : -2361183241434822606848 ≤ x * n ∧ x * n ≤ 2361183241434822606848 := by
  obtain ⟨x0, x1⟩ := hx
  obtain ⟨n0, n1⟩ := hn
  have h : (x * n).natAbs ≤ 2147483648 * 1099511627776 := by
    rw [Int.natAbs_mul]
    exact Nat.mul_le_mul (by omega) (by omega)
  omega
theorem fl_ce {x n d : Int} (hd : 0 < d) : flQ x n d ≤ ceQ x n d := by
  unfold flQ ceQ
  generalize x * n = p
  have h1 := Int.mul_ediv_self_le (x := p) (k := d) (by omega)
  have h2 := Int.mul_ediv_self_le (x := -p) (k := d) (by omega)
  have h3 : d * (p / d) ≤ d * (-(-p / d)) := by rw [Int.mul_neg]; omega
  exact Int.le_of_mul_le_mul_left h3 hd
variable {Φ : World → Prop} (hst : ∀ w w', Φ w → Below w.heap.size w w' → Φ w')
include hst
theorem s_Fe : Sound Tryz.prog Φ ΓFe :=
  Sound.cons (by kernel_rfl) (fun args p v h hp => by unfold sWProduct at h; split at h <;> cases h; exact c_wproduct hst _ _ hp.1 hp.2)
  (Sound.cons (by kernel_rfl) (fun args p v h hp => by unfold sWFloor at h; split at h <;> cases h; exact c_wfloor hst _ _ _ hp)
  (Sound.cons (by kernel_rfl) (fun args p v h hp => by unfold sWCeil at h; split at h <;> cases h; exact c_wceil hst _ _ _ hp) Sound.nil))
omit hst in
theorem pick_t {c : Prop} [Decidable c] {x y : Int} (h : c) : pick c x y = x := if_pos h
omit hst in
theorem pick_f {c : Prop} [Decidable c] {x y : Int} (h : ¬ c) : pick c x y = y := if_neg h
omit hst in
theorem gate_t {c : Prop} [Decidable c] {x : Int} (h : c) : gate c x = x := if_pos h
omit hst in
theorem gate_f {c : Prop} [Decidable c] {x : Int} (h : ¬ c) : gate c x = 0 := if_neg h
theorem c_fxenclose {x n d : Int} (hx : Q31 x) (hn : Q40 n) (hd : 0 < d) (hd1 : d ≤ 2147483648) : Ans Tryz.prog Φ 48 [num x, num n, num d] (trip (eL x n d) (eH x n d) (eE x n d)) := by
  refine fn_by hst (s_Fe hst) (vc_fxenclose x n d _) ?_
  have b := xn_bound hx hn
  have hF : F120 (x * n) := by unfold F120; omega
  have hW : WV (hiO (x * n)) (loO (x * n)) := by unfold WV hiO loO; omega
  have hv : val (hiO (x * n)) (loO (x * n)) = x * n := by unfold val hiO loO; omega
  have hd0 : ¬ d = 0 := by omega
  have e1 : quoI (x * n) d false = flQ x n d := by unfold quoI flQ; rw [if_neg (by decide), Int.fdiv_eq_ediv_of_nonneg _ (by omega)]
  have e2 : quoI (x * n) d true = ceQ x n d := by unfold quoI ceQ; rw [if_pos rfl, Int.fdiv_eq_ediv_of_nonneg _ (by omega)]
  rw [gate_t hF, gate_t hF, pick_t hF, hv, e1, e2, pick_t hW, pick_t hW, pick_f hd0, pick_f hd0]
  unfold Q31 at hx
  unfold Q40 at hn
  refine ⟨⟨by unfold I64; omega, by unfold I64; omega⟩, bcase_iff.mpr ⟨fun q => absurd q (by decide), fun _ => ⟨by unfold I64; omega, ?_⟩⟩⟩
  have ok1 : okQ (hiO (x * n)) (loO (x * n)) d false ↔ I64 (flQ x n d) := by unfold okQ; rw [hv, e1]; exact ⟨fun h => h.2.2, fun h => ⟨hW, hd0, h⟩⟩
  have ok2 : okQ (hiO (x * n)) (loO (x * n)) d true ↔ I64 (ceQ x n d) := by unfold okQ; rw [hv, e2]; exact ⟨fun h => h.2.2, fun h => ⟨hW, hd0, h⟩⟩
  unfold eL eH eE
  by_cases h1 : I64 (flQ x n d)
  · rw [pick_t h1, gate_t (ok1.mpr h1), gate_t h1]
    refine bcase_iff.mpr ⟨fun q => absurd q (by decide), fun _ => ⟨by unfold I64; omega, ?_⟩⟩
    by_cases h2 : I64 (ceQ x n d)
    · rw [pick_t h2, gate_t (ok2.mpr h2), gate_t ⟨h1, h2⟩, pick_t ⟨h1, h2⟩]
    · rw [pick_f h2, gate_f (fun h => h2 (ok2.mp h)), gate_f (fun h => h2 h.2), pick_f (fun h => h2 h.2)]
  · rw [pick_f h1, gate_f h1, gate_f (fun h => h1 h.1), pick_f (fun h => h1 h.1)]
    exact bcase_iff.mpr ⟨fun _ => rfl, fun q => absurd q (by decide)⟩
theorem c_fxvalid (a b : Int) : Ans Tryz.prog Φ 62 [wid a b] (.bool (decide (FixV a b))) := by
  refine fn_by hst Sound.nil (vc_fxvalid a b _) ?_
  unfold FixV
  refine bcase_iff.mpr ⟨fun p => bcase_iff.mpr ⟨fun q => ?_, fun q => ?_⟩, fun p => ?_⟩
  · have p := of_decide_eq_true p
    have q := of_decide_eq_true q
    exact congrArg Value.bool (decide_eq_decide.mpr ⟨fun h => ⟨p, q, h⟩, fun h => h.2.2⟩)
  · have q := of_decide_eq_false q
    exact congrArg Value.bool (decide_eq_false (fun h => q h.2.1)).symm
  · have p := of_decide_eq_false p
    exact congrArg Value.bool (decide_eq_false (fun h => p h.1)).symm
theorem c_fxboth (a b c d : Int) : Ans Tryz.prog Φ 45 [wid a b, wid c d] (.bool (decide (FixV a b ∧ FixV c d))) := by
  refine fn_by hst (Sound.cons (by kernel_rfl) (fun args p v h hp => by unfold sFxValid at h; split at h <;> cases h; exact c_fxvalid hst _ _) Sound.nil) (vc_fxboth a b c d _) ?_
  refine ⟨trivial, bcase_iff.mpr ⟨fun p => ⟨trivial, ?_⟩, fun p => ?_⟩⟩
  · have p := of_decide_eq_true p
    exact congrArg Value.bool (decide_eq_decide.mpr ⟨fun h => ⟨p, h⟩, fun h => h.2⟩)
  · have p := of_decide_eq_false p
    exact congrArg Value.bool (decide_eq_false (fun h => p h.1)).symm
theorem c_fxfactor (n : Int) : Ans Tryz.prog Φ 46 [num n] (.bool (decide (Q40 n))) := by
  refine fn_by hst Sound.nil (vc_fxfactor n _) ?_
  unfold Q40
  refine bcase_iff.mpr ⟨fun p => ?_, fun p => ?_⟩
  · have p := of_decide_eq_true p
    exact congrArg Value.bool (decide_eq_decide.mpr ⟨fun h => ⟨p, h⟩, fun h => h.2⟩)
  · have p := of_decide_eq_false p
    exact congrArg Value.bool (decide_eq_false (fun h => p h.1)).symm
theorem c_fxzero (a b : Int) : Ans Tryz.prog Φ 47 [wid a b] (.bool (decide (a ≤ 0 ∧ 0 ≤ b))) := by
  refine fn_by hst Sound.nil (vc_fxzero a b _) ?_
  refine bcase_iff.mpr ⟨fun p => ?_, fun p => ?_⟩
  · have p := of_decide_eq_true p
    exact congrArg Value.bool (decide_eq_decide.mpr ⟨fun h => ⟨p, h⟩, fun h => h.2⟩)
  · have p := of_decide_eq_false p
    exact congrArg Value.bool (decide_eq_false (fun h => p h.1)).symm
theorem s_Fq : Sound Tryz.prog Φ ΓFq :=
  Sound.cons (by kernel_rfl) (fun args p v h hp => by unfold sFxBoth at h; split at h <;> cases h; exact c_fxboth hst _ _ _ _)
  (Sound.cons (by kernel_rfl) (fun args p v h hp => by unfold sFxFactor at h; split at h <;> cases h; exact c_fxfactor hst _)
  (Sound.cons (by kernel_rfl) (fun args p v h hp => by unfold sFxZero at h; split at h <;> cases h; exact c_fxzero hst _ _)
  (Sound.cons (by kernel_rfl) (fun args p v h hp => by unfold sFxEnclose at h; split at h <;> cases h; exact c_fxenclose hst hp.1 hp.2.1 hp.2.2.1 hp.2.2.2) Sound.nil)))
/-- Both ends fit. -/
def both (x n d : Int) : Prop := I64 (flQ x n d) ∧ I64 (ceQ x n d)
omit hst in
theorem e_yes {x n d : Int} (h : both x n d) : eE x n d = 0 ∧ eL x n d = flQ x n d ∧ eH x n d = ceQ x n d := ⟨if_pos h, if_pos h.1, if_pos h⟩
omit hst in
theorem e_no {x n d : Int} (h : ¬ both x n d) : eE x n d = 5 := if_neg h
omit hst in
theorem both_of {a b c d n : Int} (hc : 0 < c) (hcd : c ≤ d) (h : okF a b c d n) : both a n c ∧ both a n d ∧ both b n c ∧ both b n d := by
  have i1 := fl_ce (x := a) (n := n) hc
  have i2 := fl_ce (x := a) (n := n) (d := d) (by omega)
  have i3 := fl_ce (x := b) (n := n) hc
  have i4 := fl_ce (x := b) (n := n) (d := d) (by omega)
  unfold okF qL qH at h
  unfold both I64
  omega
omit hst in
theorem no_ok {a b c d n : Int} (h : ¬ okF a b c d n) : trip 0 0 5 = quoAns a b c d n := by
  unfold quoAns
  rw [gate_f h, gate_f h, pick_f h]
theorem c_fxquo {a b c d n : Int} (h1 : FixV a b) (h2 : FixV c d) (hc : 0 < c) (hn : Q40 n) : Ans Tryz.prog Φ 28 [wid a b, wid c d, num n] (quoAns a b c d n) := by
  refine fn_by hst (s_Fq hst) (vc_fxquo a b c d n _) ?_
  have hb : (!decide (FixV a b ∧ FixV c d)) = false := by rw [decide_eq_true ⟨h1, h2⟩]; rfl
  have hn' : (!decide (Q40 n)) = false := by rw [decide_eq_true hn]; rfl
  have hz : decide (c ≤ 0 ∧ 0 ≤ d) = false := decide_eq_false (by omega)
  have k1 := h1
  have k2 := h2
  unfold FixV at k1 k2
  have qa : Q31 a := by unfold Q31; omega
  have qb : Q31 b := by unfold Q31; omega
  have ok := both_of (a := a) (b := b) (n := n) hc k2.2.1
  have ne5 : ((5 : Int) != 0) = true := by decide
  have ne0 : ((0 : Int) != 0) = false := by decide
  rw [hb, hn', hz, bcase_false, bcase_false, bcase_false]
  refine ⟨trivial, trivial, trivial, ⟨qa, hn, hc, by omega⟩, ?_⟩
  by_cases b1 : both a n c
  · obtain ⟨e1, l1, u1⟩ := e_yes b1
    rw [e1, ne0, bcase_false]
    refine ⟨⟨qa, hn, by omega, k2.2.2⟩, ?_⟩
    by_cases b2 : both a n d
    · obtain ⟨e2, l2, u2⟩ := e_yes b2
      rw [e2, ne0, bcase_false]
      refine ⟨⟨qb, hn, hc, by omega⟩, ?_⟩
      by_cases b3 : both b n c
      · obtain ⟨e3, l3, u3⟩ := e_yes b3
        rw [e3, ne0, bcase_false]
        refine ⟨⟨qb, hn, by omega, k2.2.2⟩, ?_⟩
        by_cases b4 : both b n d
        · obtain ⟨e4, l4, u4⟩ := e_yes b4
          rw [e4, ne0, bcase_false]
          simp only [min_if, max_if, l1, l2, l3, l4, u1, u2, u3, u4]
          have i1 := fl_ce (x := a) (n := n) hc
          have i2 := fl_ce (x := a) (n := n) (d := d) (by omega)
          have i3 := fl_ce (x := b) (n := n) hc
          have i4 := fl_ce (x := b) (n := n) (d := d) (by omega)
          have hL : min (min (min (min (flQ a n c) (flQ a n c)) (flQ a n d)) (flQ b n c)) (flQ b n d) = qL a b c d n := by unfold qL; omega
          have hH : max (max (max (min (ceQ a n c) (ceQ a n c)) (ceQ a n d)) (ceQ b n c)) (ceQ b n d) = qH a b c d n := by unfold qH; omega
          have hLH : qL a b c d n ≤ qH a b c d n := by unfold qL qH; omega
          rw [hL, hH]
          refine ⟨trivial, bcase_iff.mpr ⟨fun q => ?_, fun q => ⟨trivial, bcase_iff.mpr ⟨fun r => ?_, fun r => ?_⟩⟩⟩⟩
          · refine no_ok (fun o => ?_)
            have q : ¬ Q40 (qL a b c d n) := by simpa using q
            apply q
            unfold okF at o
            unfold Q40
            omega
          · refine no_ok (fun o => ?_)
            have r : ¬ Q40 (qH a b c d n) := by simpa using r
            apply r
            unfold okF at o
            unfold Q40
            omega
          · have q : Q40 (qL a b c d n) := by simpa using q
            have r : Q40 (qH a b c d n) := by simpa using r
            have o : okF a b c d n := ⟨q.1, r.2⟩
            unfold quoAns
            rw [gate_t o, gate_t o, pick_t o]
        · rw [e_no b4, ne5, bcase_true]
          exact no_ok fun o => b4 (ok o).2.2.2
      · rw [e_no b3, ne5, bcase_true]
        exact no_ok fun o => b3 (ok o).2.2.1
    · rw [e_no b2, ne5, bcase_true]
      exact no_ok fun o => b2 (ok o).2.1
  · rw [e_no b1, ne5, bcase_true]
    exact no_ok fun o => b1 (ok o).1
end Go.Proofs.YtidhogcijghogaaGreatDoor

/- Quotients of intervals, by the reference: what they answer. -/
namespace Go.Proofs.YtidhogcijghogaaGreatDoor
open Go Go.Abs Go.RowKit
set_option linter.unusedVariables false
def sR4Floor : FSpec := fun | [.int .i64 a, .int .i64 b] => some (I64 a ∧ 0 < b, num (a / b)) | _ => none
def TQ (x n y : Int) : Prop := Q31 x ∧ Q40 n ∧ 0 < y ∧ y ≤ 2147483648 ∧ -(16777216 * y) ≤ x * (n.tdiv 1048576) ∧ x * (n.tdiv 1048576) ≤ 16777216 * y
def sTimes4 : FSpec := fun | [.int .i64 x, .int .i64 n, .int .i64 y] => some (TQ x n y, num (flQ x n y)) | _ => none
def sLeast4 : FSpec := fun | [.int .i64 a, .int .i64 b] => some (True, num (min a b)) | _ => none
def TQ4 (a b c d n : Int) : Prop := TQ a n c ∧ TQ a n d ∧ TQ b n c ∧ TQ b n d
def sCorners4 : FSpec := fun | [.agg ⟨[.int .i64 a, .int .i64 b]⟩, .agg ⟨[.int .i64 c, .int .i64 d]⟩, .int .i64 n] => some (TQ4 a b c d n, pair (num (qL a b c d n)) (num (qH a b c d n))) | _ => none
def bigB (x n y : Int) : Bool := decide (2 ≤ absI x / y ∧ 4194304 < absI n / 1048576 * (absI x / y))
def sBig4 : FSpec := fun | [.int .i64 x, .int .i64 n, .int .i64 y] => some (Q31 x ∧ Q40 n ∧ 0 < y, .bool (bigB x n y)) | _ => none
def sTurned4 : FSpec := fun | [.agg ⟨[.int .i64 a, .int .i64 b]⟩, .agg ⟨[.int .i64 c, .int .i64 d]⟩] => some (0 < c, pair (wid a b) (wid c d)) | _ => none
def ΓRt : List (FuncId × CSpec) := [(66, .v sR4Floor)]
def ΓRc : List (FuncId × CSpec) := [(69, .v sTimes4), (68, .v sLeast4)]
def ΓRq : List (FuncId × CSpec) := [(51, .v sFxFactor), (52, .v sFxZero), (53, .v sTurned4), (54, .v sBig4), (55, .v sCorners4)]
end Go.Proofs.YtidhogcijghogaaGreatDoor

/- Quotients of intervals, by the reference: what they ask. -/
namespace Go.Proofs.YtidhogcijghogaaGreatDoor
open Go Go.Abs Go.RowKit
set_option linter.unusedVariables false
set_option linter.unusedSimpArgs false
theorem vc_r4floor (a b : Int) (K : Value → Prop) : callsX Tryz.prog ([]) (noAnn) 66 [num a, num b] K = (
 bcase (b == 0) False (bcase (b == 0) False (bcase (decide (a.tmod b < 0)) (K (Value.int IntKind.i64 (IntKind.i64.wrap (IntKind.i64.wrap (a.tdiv b) - 1)))) (K (Value.int IntKind.i64 (IntKind.i64.wrap (a.tdiv b))))))) := by kernel_rfl
theorem vc_r4times (x n y : Int) (K : Value → Prop) : callsX Tryz.prog (ΓRt) (noAnn) 69 [num x, num n, num y] K = (
 (I64 (IntKind.i64.wrap (x * IntKind.i64.wrap ((IntKind.i64.wrap (n - n.tmod 1048576)).tdiv 1048576))) ∧ 0 < y) ∧
 (I64 (IntKind.i64.wrap (IntKind.i64.wrap (IntKind.i64.wrap (IntKind.i64.wrap (x * IntKind.i64.wrap ((IntKind.i64.wrap (n - n.tmod 1048576)).tdiv 1048576)) - IntKind.i64.wrap (IntKind.i64.wrap (x * IntKind.i64.wrap ((IntKind.i64.wrap (n - n.tmod 1048576)).tdiv 1048576)) / y * y)) * 1048576) + IntKind.i64.wrap (x * n.tmod 1048576))) ∧ 0 < y) ∧
 K
 (Value.int IntKind.i64
 (IntKind.i64.wrap
 (IntKind.i64.wrap (IntKind.i64.wrap (x * IntKind.i64.wrap ((IntKind.i64.wrap (n - n.tmod 1048576)).tdiv 1048576)) / y * 1048576) +
 IntKind.i64.wrap (IntKind.i64.wrap (IntKind.i64.wrap (IntKind.i64.wrap (x * IntKind.i64.wrap ((IntKind.i64.wrap (n - n.tmod 1048576)).tdiv 1048576)) - IntKind.i64.wrap (IntKind.i64.wrap (x * IntKind.i64.wrap ((IntKind.i64.wrap (n - n.tmod 1048576)).tdiv 1048576)) / y * y)) * 1048576) + IntKind.i64.wrap (x * n.tmod 1048576)) / y)))) := by kernel_rfl
theorem vc_r4least (a b : Int) (K : Value → Prop) : callsX Tryz.prog ([]) (noAnn) 68 [num a, num b] K = (
 bcase (decide (b < a)) (K (Value.int IntKind.i64 b)) (K (Value.int IntKind.i64 a))) := by kernel_rfl
theorem vc_r4corners (a b c d n : Int) (K : Value → Prop) : callsX Tryz.prog (ΓRc) (noAnn) 55 [wid a b, wid c d, num n] K = (
 TQ a n c ∧
 TQ a n d ∧
 True ∧
 TQ b n c ∧
 TQ b n d ∧
 True ∧
 True ∧
 TQ a (IntKind.i64.wrap (0 - n)) c ∧
 TQ a (IntKind.i64.wrap (0 - n)) d ∧
 True ∧
 TQ b (IntKind.i64.wrap (0 - n)) c ∧
 TQ b (IntKind.i64.wrap (0 - n)) d ∧ True ∧ True ∧ K (Value.tuple #[Value.int IntKind.i64 (min (min (flQ a n c) (flQ a n d)) (min (flQ b n c) (flQ b n d))), Value.int IntKind.i64 (IntKind.i64.wrap (0 - min (min (flQ a (IntKind.i64.wrap (0 - n)) c) (flQ a (IntKind.i64.wrap (0 - n)) d)) (min (flQ b (IntKind.i64.wrap (0 - n)) c) (flQ b (IntKind.i64.wrap (0 - n)) d))))])) := by kernel_rfl
theorem vc_r4big (x n y : Int) (K : Value → Prop) : callsX Tryz.prog ([]) (noAnn) 54 [num x, num n, num y] K = (
 bcase (decide (x < 0))
 (bcase (decide (n < 0)) (bcase (y == 0) False (bcase (decide (IntKind.i64.wrap ((IntKind.i64.wrap (0 - x)).tdiv y) ≥ 2)) (bcase (y == 0) False (K (Value.bool (decide (IntKind.i64.wrap (IntKind.i64.wrap ((IntKind.i64.wrap (0 - n)).tdiv 1048576) * IntKind.i64.wrap ((IntKind.i64.wrap (0 - x)).tdiv y)) > 4194304))))) (K (Value.bool false))))
 (bcase (y == 0) False (bcase (decide (IntKind.i64.wrap ((IntKind.i64.wrap (0 - x)).tdiv y) ≥ 2)) (bcase (y == 0) False (K (Value.bool (decide (IntKind.i64.wrap (IntKind.i64.wrap (n.tdiv 1048576) * IntKind.i64.wrap ((IntKind.i64.wrap (0 - x)).tdiv y)) > 4194304))))) (K (Value.bool false)))))
 (bcase (decide (n < 0)) (bcase (y == 0) False (bcase (decide (IntKind.i64.wrap (x.tdiv y) ≥ 2)) (bcase (y == 0) False (K (Value.bool (decide (IntKind.i64.wrap (IntKind.i64.wrap ((IntKind.i64.wrap (0 - n)).tdiv 1048576) * IntKind.i64.wrap (x.tdiv y)) > 4194304))))) (K (Value.bool false))))
 (bcase (y == 0) False (bcase (decide (IntKind.i64.wrap (x.tdiv y) ≥ 2)) (bcase (y == 0) False (K (Value.bool (decide (IntKind.i64.wrap (IntKind.i64.wrap (n.tdiv 1048576) * IntKind.i64.wrap (x.tdiv y)) > 4194304))))) (K (Value.bool false)))))) := by kernel_rfl
theorem vc_r4turned (a b c d : Int) (K : Value → Prop) : callsX Tryz.prog ([]) (noAnn) 53 [wid a b, wid c d] K = (
 bcase (decide (c < 0)) False (K (Value.tuple #[Value.agg #[Value.int IntKind.i64 a, Value.int IntKind.i64 b], Value.agg #[Value.int IntKind.i64 c, Value.int IntKind.i64 d]]))) := by kernel_rfl
theorem vc_r4reaches (n : Int) (K : Value → Prop) : callsX Tryz.prog ([]) (noAnn) 51 [num n] K = (
 bcase (decide (n ≥ -1099511627776)) (K (Value.bool (decide (n ≤ 1099511627776)))) (K (Value.bool false))) := by kernel_rfl
theorem vc_r4zero (a b : Int) (K : Value → Prop) : callsX Tryz.prog ([]) (noAnn) 52 [wid a b] K = (
 bcase (decide (a ≤ 0)) (K (Value.bool (decide (b ≥ 0)))) (K (Value.bool false))) := by kernel_rfl
theorem vc_r4quo (a b c d n : Int) (K : Value → Prop) : callsX Tryz.prog (ΓRq) (noAnn) 31 [wid a b, wid c d, num n] K = (
 True ∧
 bcase (!decide (Q40 n)) (K (Value.tuple #[Value.int IntKind.i64 0, Value.int IntKind.i64 0, Value.int IntKind.i64 2]))
 (True ∧
 bcase (decide (c ≤ 0 ∧ 0 ≤ d)) (K (Value.tuple #[Value.int IntKind.i64 0, Value.int IntKind.i64 0, Value.int IntKind.i64 16]))
 (0 < c ∧
 (Q31 a ∧ Q40 n ∧ 0 < c) ∧
 bcase (bigB a n c) (K (Value.tuple #[Value.int IntKind.i64 0, Value.int IntKind.i64 0, Value.int IntKind.i64 5]))
 ((Q31 b ∧ Q40 n ∧ 0 < c) ∧
 bcase (bigB b n c) (K (Value.tuple #[Value.int IntKind.i64 0, Value.int IntKind.i64 0, Value.int IntKind.i64 5]))
 (TQ4 a b c d n ∧
 True ∧
 bcase (!decide (Q40 (qL a b c d n))) (K (Value.tuple #[Value.int IntKind.i64 0, Value.int IntKind.i64 0, Value.int IntKind.i64 5])) (True ∧ bcase (!decide (Q40 (qH a b c d n))) (K (Value.tuple #[Value.int IntKind.i64 0, Value.int IntKind.i64 0, Value.int IntKind.i64 5])) (K (Value.tuple #[Value.int IntKind.i64 (qL a b c d n), Value.int IntKind.i64 (qH a b c d n), Value.int IntKind.i64 0])))))))) := by kernel_rfl
end Go.Proofs.YtidhogcijghogaaGreatDoor

/- Quotients of intervals, by the reference: contracts. -/
namespace Go.Proofs.YtidhogcijghogaaGreatDoor
open Go Go.Abs Go.RowKit
set_option linter.unusedVariables false
set_option linter.unusedSimpArgs false
/-- A quotient that goes to zero, and one that is rounded down. -/
theorem tdiv_floor {a b : Int} (hb : 0 < b) : (a.tmod b < 0 ∧ a.tdiv b - 1 = a / b) ∨ (¬ a.tmod b < 0 ∧ a.tdiv b = a / b) := by
  rcases Int.le_total 0 a with h | h
  · right
    rw [Int.tmod_eq_emod_of_nonneg h, Int.tdiv_eq_ediv_of_nonneg h]
    exact ⟨by have := Int.emod_nonneg a (Int.ne_of_gt hb); omega, rfl⟩
  · have e1 : a.tdiv b = -((-a) / b) := by rw [← Int.tdiv_eq_ediv_of_nonneg (by omega), Int.neg_tdiv, Int.neg_neg]
    have e2 : a.tmod b = -((-a) % b) := by rw [← Int.tmod_eq_emod_of_nonneg (by omega), Int.neg_tmod, Int.neg_neg]
    rw [e1, e2]
    have m0 := Int.emod_nonneg (-a) (Int.ne_of_gt hb)
    have m1 := Int.emod_lt_of_pos (-a) hb
    have d := Int.mul_ediv_add_emod (-a) b
    by_cases z : (-a) % b = 0
    · right
      refine ⟨by omega, ?_⟩
      symm
      have : a = b * (-((-a) / b)) := by rw [Int.mul_neg]; omega
      conv => lhs; rw [this]
      rw [Int.mul_ediv_cancel_left _ (Int.ne_of_gt hb)]
    · left
      refine ⟨by omega, ?_⟩
      symm
      have : a = (b - (-a) % b) + b * (-((-a) / b) - 1) := by rw [Int.mul_sub, Int.mul_neg]; omega
      conv => lhs; rw [this]
      rw [Int.add_mul_ediv_left _ _ (Int.ne_of_gt hb), Int.ediv_eq_zero_of_lt (by omega) (by omega), Int.zero_add]
theorem ediv_i64 {a b : Int} (ha : I64 a) (hb : 0 < b) : I64 (a / b) ∧ (a.tmod b < 0 → -9223372036854775808 ≤ a / b) := by
  unfold I64 at *
  have h1 : a / b ≤ 9223372036854775807 := by
    rcases Int.le_total 0 a with h | h
    · have := Int.ediv_le_self b h; omega
    · have : a / b ≤ 0 := by
        have := Int.ediv_le_ediv hb h
        rw [Int.zero_ediv] at this
        exact this
      omega
  have h2 : -9223372036854775808 ≤ a / b := by
    have : (-9223372036854775808 : Int) * b ≤ a := by
      have : b * 9223372036854775808 ≥ 1 * 9223372036854775808 := Int.mul_le_mul_of_nonneg_right (by omega) (by decide)
      omega
    exact (Int.le_ediv_iff_mul_le hb).mpr this
  exact ⟨⟨h2, h1⟩, fun _ => h2⟩
variable {Φ : World → Prop} (hst : ∀ w w', Φ w → Below w.heap.size w w' → Φ w')
include hst
theorem c_r4floor {a b : Int} (ha : I64 a) (hb : 0 < b) : Ans Tryz.prog Φ 66 [num a, num b] (num (a / b)) := by
  refine fn_by hst Sound.nil (vc_r4floor a b _) ?_
  have nz : (b == 0) = false := beq_eq_false_iff_ne.mpr (by omega)
  obtain ⟨hi, _⟩ := ediv_i64 ha hb
  unfold I64 at hi
  rw [nz, bcase_false, bcase_false]
  refine bcase_iff.mpr ⟨fun q => ?_, fun q => ?_⟩
  · have q := of_decide_eq_true q
    rcases tdiv_floor (a := a) hb with ⟨_, e⟩ | ⟨h, _⟩
    · have t : I64 (a.tdiv b) := by
        unfold I64
        have : a.tdiv b ≤ 0 := by
          have : a < 0 := by
            by_cases h : a < 0
            · exact h
            · have := Int.tmod_eq_emod_of_nonneg (b := b) (show 0 ≤ a by omega)
              have := Int.emod_nonneg a (Int.ne_of_gt hb)
              omega
          have e1 : a.tdiv b = -((-a) / b) := by rw [← Int.tdiv_eq_ediv_of_nonneg (by omega), Int.neg_tdiv, Int.neg_neg]
          have := Int.ediv_nonneg (show 0 ≤ -a by omega) (Int.le_of_lt hb)
          omega
        omega
      unfold I64 at t
      rw [wrap_in (n := a.tdiv b) (by omega), e, wrap_in (by omega)]
    · exact absurd q h
  · have q := of_decide_eq_false q
    rcases tdiv_floor (a := a) hb with ⟨h, _⟩ | ⟨_, e⟩
    · exact absurd h q
    · rw [e, wrap_in (by omega)]
theorem c_r4least (a b : Int) : Ans Tryz.prog Φ 68 [num a, num b] (num (min a b)) := by
  refine fn_by hst Sound.nil (vc_r4least a b _) ?_
  refine bcase_iff.mpr ⟨fun q => ?_, fun q => ?_⟩
  · have q := of_decide_eq_true q
    rw [show min a b = b by omega]
  · have q := of_decide_eq_false q
    rw [show min a b = a by omega]
theorem c_r4reaches (n : Int) : Ans Tryz.prog Φ 51 [num n] (.bool (decide (Q40 n))) := by
  refine fn_by hst Sound.nil (vc_r4reaches n _) ?_
  unfold Q40
  refine bcase_iff.mpr ⟨fun p => ?_, fun p => ?_⟩
  · have p := of_decide_eq_true p
    exact congrArg Value.bool (decide_eq_decide.mpr ⟨fun h => ⟨p, h⟩, fun h => h.2⟩)
  · have p := of_decide_eq_false p
    exact congrArg Value.bool (decide_eq_false (fun h => p h.1)).symm
theorem c_r4zero (a b : Int) : Ans Tryz.prog Φ 52 [wid a b] (.bool (decide (a ≤ 0 ∧ 0 ≤ b))) := by
  refine fn_by hst Sound.nil (vc_r4zero a b _) ?_
  refine bcase_iff.mpr ⟨fun p => ?_, fun p => ?_⟩
  · have p := of_decide_eq_true p
    exact congrArg Value.bool (decide_eq_decide.mpr ⟨fun h => ⟨p, h⟩, fun h => h.2⟩)
  · have p := of_decide_eq_false p
    exact congrArg Value.bool (decide_eq_false (fun h => p h.1)).symm
theorem c_r4turned {a b c d : Int} (hc : 0 < c) : Ans Tryz.prog Φ 53 [wid a b, wid c d] (pair (wid a b) (wid c d)) := by
  refine fn_by hst Sound.nil (vc_r4turned a b c d _) ?_
  exact bcase_iff.mpr ⟨fun q => absurd (of_decide_eq_true q) (by omega), fun _ => rfl⟩
theorem s_Rt : Sound Tryz.prog Φ ΓRt := Sound.cons (by kernel_rfl) (fun args p v h hp => by unfold sR4Floor at h; split at h <;> cases h; exact c_r4floor hst hp.1 hp.2) Sound.nil
theorem c_r4times {x n y : Int} (h : TQ x n y) : Ans Tryz.prog Φ 69 [num x, num n, num y] (num (flQ x n y)) := by
  refine fn_by hst (s_Rt hst) (vc_r4times x n y _) ?_
  obtain ⟨⟨x0, x1⟩, ⟨n0, n1⟩, y0, y1, p0, p1⟩ := h
  have hn : n = 1048576 * n.tdiv 1048576 + n.tmod 1048576 := (Int.mul_tdiv_add_tmod n 1048576).symm
  have hl : -1048576 < n.tmod 1048576 ∧ n.tmod 1048576 < 1048576 := by
    constructor
    · exact Int.lt_tmod_of_pos n (by decide)
    · exact Int.tmod_lt_of_pos n (by decide)
  have hh : -1048576 ≤ n.tdiv 1048576 ∧ n.tdiv 1048576 ≤ 1048576 := by omega
  have e1 : IntKind.i64.wrap (n - n.tmod 1048576) = 1048576 * n.tdiv 1048576 := by rw [wrap_in (by omega)]; omega
  have e2 : (1048576 * n.tdiv 1048576).tdiv 1048576 = n.tdiv 1048576 := Int.mul_tdiv_cancel_left _ (by decide)
  rw [e1, e2, wrap_in (n := n.tdiv 1048576) (by omega)]
  have full : x * n = x * n.tdiv 1048576 * 1048576 + x * n.tmod 1048576 := by
    conv => lhs; rw [hn]
    rw [Int.mul_add, Int.mul_comm 1048576, Int.mul_assoc]
  have lb : -2251799813685248 ≤ x * n.tmod 1048576 ∧ x * n.tmod 1048576 ≤ 2251799813685248 := by
    have : (x * n.tmod 1048576).natAbs ≤ 2147483648 * 1048576 := by
      rw [Int.natAbs_mul]
      exact Nat.mul_le_mul (by omega) (by omega)
    omega
  unfold flQ
  rw [full]
  generalize n.tdiv 1048576 = hi at *
  generalize n.tmod 1048576 = lo at *
  clear hn e1 e2 full
  generalize x * hi = p at *
  generalize x * lo = q at *
  rw [wrap_in (n := p) (by omega), wrap_in (n := q) (by omega)]
  have m0 := Int.emod_nonneg p (Int.ne_of_gt y0)
  have m1 := Int.emod_lt_of_pos p y0
  have dm := Int.mul_ediv_add_emod p y
  have dm' : p / y * y = p - p % y := by rw [Int.mul_comm]; omega
  have q0 : -16777217 ≤ p / y := (Int.le_ediv_iff_mul_le y0).mpr (by omega)
  have q1 : p / y ≤ 16777216 := Int.le_of_lt_add_one (Int.ediv_lt_of_lt_mul y0 (by omega))
  rw [dm', wrap_in (n := p - p % y) (by omega), wrap_in (n := p - (p - p % y)) (by omega), show p - (p - p % y) = p % y by omega]
  rw [wrap_in (n := p % y * 1048576) (by omega), wrap_in (n := p % y * 1048576 + q) (by omega), wrap_in (n := p / y * 1048576) (by omega)]
  have key : (p * 1048576 + q) / y = p / y * 1048576 + (p % y * 1048576 + q) / y := by
    have : p * 1048576 + q = (p % y * 1048576 + q) + p / y * 1048576 * y := by
      have : p / y * 1048576 * y = p / y * y * 1048576 := by rw [Int.mul_right_comm]
      rw [this, dm']
      omega
    rw [this, Int.add_mul_ediv_right _ _ (Int.ne_of_gt y0), Int.add_comm]
  have r0 : -2251799813685249 ≤ (p % y * 1048576 + q) / y := (Int.le_ediv_iff_mul_le y0).mpr (by omega)
  have r1 : (p % y * 1048576 + q) / y ≤ 4503599627370496 * 1000 := Int.le_of_lt_add_one (Int.ediv_lt_of_lt_mul y0 (by omega))
  refine ⟨⟨by unfold I64; omega, y0⟩, ⟨by unfold I64; omega, y0⟩, ?_⟩
  rw [key, wrap_in (by omega)]
end Go.Proofs.YtidhogcijghogaaGreatDoor

/- Quotients of intervals, by the reference: contracts of the whole. -/
namespace Go.Proofs.YtidhogcijghogaaGreatDoor
open Go Go.Abs Go.RowKit
set_option linter.unusedVariables false
set_option linter.unusedSimpArgs false
variable {Φ : World → Prop} (hst : ∀ w w', Φ w → Below w.heap.size w w' → Φ w')
include hst
theorem s_Rc : Sound Tryz.prog Φ ΓRc :=
  Sound.cons (by kernel_rfl) (fun args p v h hp => by unfold sTimes4 at h; split at h <;> cases h; exact c_r4times hst hp)
  (Sound.cons (by kernel_rfl) (fun args p v h hp => by unfold sLeast4 at h; split at h <;> cases h; exact c_r4least hst _ _) Sound.nil)
omit hst in
theorem tq_neg {x n y : Int} (h : TQ x n y) : TQ x (-n) y := by
  obtain ⟨h1, h2, h3, h4, h5, h6⟩ := h
  unfold TQ
  rw [Int.neg_tdiv, Int.mul_neg]
  exact ⟨h1, ⟨by have := h2.2; omega, by have := h2.1; omega⟩, h3, h4, by omega, by omega⟩
omit hst in
theorem fl_bound {x n y : Int} (h : TQ x n y) : -2269391999729664 ≤ flQ x n y ∧ flQ x n y ≤ 2269391999729664 := by
  obtain ⟨⟨x0, x1⟩, ⟨n0, n1⟩, y0, y1, p0, p1⟩ := h
  have hn : n = 1048576 * n.tdiv 1048576 + n.tmod 1048576 := (Int.mul_tdiv_add_tmod n 1048576).symm
  have hl : -1048576 < n.tmod 1048576 ∧ n.tmod 1048576 < 1048576 := ⟨Int.lt_tmod_of_pos n (by decide), Int.tmod_lt_of_pos n (by decide)⟩
  have full : x * n = x * n.tdiv 1048576 * 1048576 + x * n.tmod 1048576 := by
    conv => lhs; rw [hn]
    rw [Int.mul_add, Int.mul_comm 1048576, Int.mul_assoc]
  have lb : -2251799813685248 ≤ x * n.tmod 1048576 ∧ x * n.tmod 1048576 ≤ 2251799813685248 := by
    have : (x * n.tmod 1048576).natAbs ≤ 2147483648 * 1048576 := by
      rw [Int.natAbs_mul]
      exact Nat.mul_le_mul (by omega) (by omega)
    omega
  unfold flQ
  rw [full]
  generalize x * n.tdiv 1048576 = p at *
  generalize x * n.tmod 1048576 = q at *
  exact ⟨(Int.le_ediv_iff_mul_le y0).mpr (by omega), Int.le_of_lt_add_one (Int.ediv_lt_of_lt_mul y0 (by omega))⟩
theorem c_r4corners {a b c d n : Int} (h : TQ4 a b c d n) : Ans Tryz.prog Φ 55 [wid a b, wid c d, num n] (pair (num (qL a b c d n)) (num (qH a b c d n))) := by
  refine fn_by hst (s_Rc hst) (vc_r4corners a b c d n _) ?_
  obtain ⟨t1, t2, t3, t4⟩ := h
  have hn := t1.2.1
  unfold Q40 at hn
  have e : IntKind.i64.wrap (0 - n) = -n := by rw [wrap_in (by omega), Int.zero_sub]
  rw [e]
  refine ⟨t1, t2, trivial, t3, t4, trivial, trivial, tq_neg t1, tq_neg t2, trivial, tq_neg t3, tq_neg t4, trivial, trivial, ?_⟩
  have b1 := fl_bound (tq_neg t1)
  have b2 := fl_bound (tq_neg t2)
  have b3 := fl_bound (tq_neg t3)
  have b4 := fl_bound (tq_neg t4)
  rw [wrap_in (by omega)]
  have f : ∀ x y, flQ x (-n) y = - ceQ x n y := fun x y => by unfold flQ ceQ; rw [Int.mul_neg, Int.neg_neg]
  rw [f, f, f, f]
  have : 0 - min (min (-ceQ a n c) (-ceQ a n d)) (min (-ceQ b n c) (-ceQ b n d)) = qH a b c d n := by unfold qH; omega
  rw [this]
  rfl
omit hst in
theorem big_tail {X N y : Int} {B : Bool} (hX : 0 ≤ X ∧ X ≤ 2147483648) (hN : 0 ≤ N ∧ N ≤ 1099511627776) (hy : 0 < y) (hB : B = decide (2 ≤ X / y ∧ 4194304 < N / 1048576 * (X / y))) :
    bcase (y == 0) False (bcase (decide (IntKind.i64.wrap (X.tdiv y) ≥ 2)) (bcase (y == 0) False (Value.bool (decide (IntKind.i64.wrap (IntKind.i64.wrap (N.tdiv 1048576) * IntKind.i64.wrap (X.tdiv y)) > 4194304)) = Value.bool B)) (Value.bool false = Value.bool B)) := by
  have nz : (y == 0) = false := beq_eq_false_iff_ne.mpr (by omega)
  have q0 : 0 ≤ X / y := Int.ediv_nonneg hX.1 (by omega)
  have q1 : X / y ≤ 2147483648 := Int.le_trans (Int.ediv_le_self y hX.1) hX.2
  have m0 : 0 ≤ N / 1048576 ∧ N / 1048576 ≤ 1048576 := by omega
  rw [Int.tdiv_eq_ediv_of_nonneg hX.1, Int.tdiv_eq_ediv_of_nonneg hN.1, wrap_in (n := X / y) (by omega), wrap_in (n := N / 1048576) (by omega), nz, bcase_false, bcase_false]
  have p0 := Int.mul_nonneg m0.1 q0
  have p1 : N / 1048576 * (X / y) ≤ 1048576 * 2147483648 := Int.mul_le_mul m0.2 q1 q0 (by decide)
  rw [wrap_in (n := N / 1048576 * (X / y)) (by omega)]
  subst hB
  refine bcase_iff.mpr ⟨fun q => ?_, fun q => ?_⟩
  · have q := of_decide_eq_true q
    exact congrArg Value.bool (decide_eq_decide.mpr ⟨fun h => ⟨q, h⟩, fun h => h.2⟩)
  · have q := of_decide_eq_false q
    exact congrArg Value.bool (decide_eq_false (fun h => q h.1)).symm
theorem c_r4big {x n y : Int} (hx : Q31 x) (hn : Q40 n) (hy : 0 < y) : Ans Tryz.prog Φ 54 [num x, num n, num y] (.bool (bigB x n y)) := by
  refine fn_by hst Sound.nil (vc_r4big x n y _) ?_
  obtain ⟨x0, x1⟩ := hx
  obtain ⟨n0, n1⟩ := hn
  have ex : IntKind.i64.wrap (0 - x) = -x := by rw [wrap_in (by omega), Int.zero_sub]
  have en : IntKind.i64.wrap (0 - n) = -n := by rw [wrap_in (by omega), Int.zero_sub]
  rw [ex, en]
  refine bcase_iff.mpr ⟨fun p => bcase_iff.mpr ⟨fun q => ?_, fun q => ?_⟩, fun p => bcase_iff.mpr ⟨fun q => ?_, fun q => ?_⟩⟩
  · have p := of_decide_eq_true p
    have q := of_decide_eq_true q
    exact big_tail (by omega) (by omega) hy (by unfold bigB absI; rw [if_pos p, if_pos q])
  · have p := of_decide_eq_true p
    have q := of_decide_eq_false q
    exact big_tail (by omega) (by omega) hy (by unfold bigB absI; rw [if_pos p, if_neg q])
  · have p := of_decide_eq_false p
    have q := of_decide_eq_true q
    exact big_tail (by omega) (by omega) hy (by unfold bigB absI; rw [if_neg p, if_pos q])
  · have p := of_decide_eq_false p
    have q := of_decide_eq_false q
    exact big_tail (by omega) (by omega) hy (by unfold bigB absI; rw [if_neg p, if_neg q])
end Go.Proofs.YtidhogcijghogaaGreatDoor

/- Quotients of intervals: the reference answers as the program does. -/
namespace Go.Proofs.YtidhogcijghogaaGreatDoor
open Go Go.Abs Go.RowKit
set_option linter.unusedVariables false
set_option linter.unusedSimpArgs false
theorem abs_cases (x : Int) : 0 ≤ absI x ∧ (x = absI x ∨ x = -absI x) := by unfold absI; split <;> omega
theorem big_out {x n y : Int} (hy : 0 < y) (h : bigB x n y = true) : flQ x n y < -1099511627776 ∨ 1099511627776 < flQ x n y := by
  unfold bigB at h
  obtain ⟨h1, h2⟩ := of_decide_eq_true h
  obtain ⟨X0, hX⟩ := abs_cases x
  obtain ⟨N0, hN⟩ := abs_cases n
  generalize absI x = X at *
  generalize absI n = N at *
  have a1 : y * (X / y) ≤ X := Int.mul_ediv_self_le (Int.ne_of_gt hy)
  have a2 : N / 1048576 * 1048576 ≤ N := by omega
  have q0 : 0 ≤ X / y := by omega
  have m0 : 0 ≤ N / 1048576 := by omega
  have yq : 0 ≤ y * (X / y) := Int.mul_nonneg (by omega) q0
  have P : (y * (X / y)) * (N / 1048576 * 1048576) ≤ X * N := Int.mul_le_mul a1 a2 (by omega) X0
  have e : (y * (X / y)) * (N / 1048576 * 1048576) = y * (N / 1048576 * (X / y)) * 1048576 := by
    generalize X / y = q
    generalize N / 1048576 = m
    grind
  have k : y * 4194305 ≤ y * (N / 1048576 * (X / y)) := Int.mul_le_mul_of_nonneg_left (by omega) (by omega)
  rw [e] at P
  have low : y * 4194305 * 1048576 ≤ X * N := by omega
  unfold flQ
  have hp : x * n = X * N ∨ x * n = -(X * N) := by
    rcases hX with e1 | e1 <;> rcases hN with e2 | e2 <;> rw [e1, e2]
    · left; rfl
    · right; rw [Int.mul_neg]
    · right; rw [Int.neg_mul]
    · left; rw [Int.neg_mul_neg]
  clear P e k a1 a2 yq hX hN h1 h2 h
  generalize X * N = p at *
  rcases hp with e | e
  · right
    rw [e]
    have : 1099511627777 ≤ p / y := (Int.le_ediv_iff_mul_le hy).mpr (by omega)
    omega
  · left
    rw [e]
    exact Int.ediv_lt_of_lt_mul hy (by omega)
theorem not_big {x n y z : Int} (hx : Q31 x) (hn : Q40 n) (hy : 0 < y) (hz : y ≤ z) (hz1 : z ≤ 2147483648) (h : bigB x n y = false) : TQ x n z := by
  have h' := of_decide_eq_false h
  refine ⟨hx, hn, by omega, hz1, ?_⟩
  obtain ⟨X0, hX⟩ := abs_cases x
  obtain ⟨N0, hN⟩ := abs_cases n
  have hXb : absI x ≤ 2147483648 := by unfold Q31 at hx; unfold absI; split <;> omega
  have hNb : absI n ≤ 1099511627776 := by unfold Q40 at hn; unfold absI; split <;> omega
  generalize absI x = X at *
  generalize absI n = N at *
  have m0 : 0 ≤ N / 1048576 ∧ N / 1048576 ≤ 1048576 := by omega
  have q0 : 0 ≤ X / y := Int.ediv_nonneg X0 (by omega)
  have a1 : X < y * (X / y) + y := Int.lt_mul_ediv_self_add hy
  have ht : n.tdiv 1048576 = N / 1048576 ∨ n.tdiv 1048576 = -(N / 1048576) := by
    rcases hN with e | e
    · left; rw [e, Int.tdiv_eq_ediv_of_nonneg N0]
    · right; rw [e, Int.neg_tdiv, Int.tdiv_eq_ediv_of_nonneg N0]
  have lim : X * (N / 1048576) ≤ 8388608 * y := by
    generalize N / 1048576 = m at *
    by_cases c : 2 ≤ X / y
    · have c2 : m * (X / y) ≤ 4194304 := by
        rcases Int.lt_or_le 4194304 (m * (X / y)) with q | q
        · exact absurd ⟨c, q⟩ h'
        · exact q
      have k1 : X * m ≤ (y * (X / y) + y) * m := Int.mul_le_mul_of_nonneg_right (by omega) m0.1
      have e : (y * (X / y) + y) * m = y * (m * (X / y) + m) := by generalize X / y = q; grind
      have k2 : y * (m * (X / y) + m) ≤ y * 5242880 := Int.mul_le_mul_of_nonneg_left (by omega) (by omega)
      rw [e] at k1
      omega
    · have q1 : X / y ≤ 1 := by omega
      have : y * (X / y) ≤ y * 1 := Int.mul_le_mul_of_nonneg_left q1 (by omega)
      have k1 : X * m ≤ (2 * y) * 1048576 := Int.mul_le_mul (by omega) m0.2 m0.1 (by omega)
      omega
  have nn : 0 ≤ X * (N / 1048576) := Int.mul_nonneg X0 m0.1
  have hp : x * n.tdiv 1048576 = X * (N / 1048576) ∨ x * n.tdiv 1048576 = -(X * (N / 1048576)) := by
    rcases hX with e1 | e1 <;> rcases ht with e2 | e2 <;> rw [e1, e2]
    · left; rfl
    · right; rw [Int.mul_neg]
    · right; rw [Int.neg_mul]
    · left; rw [Int.neg_mul_neg]
  clear hX hN ht h' h a1
  generalize X * (N / 1048576) = p at *
  generalize x * n.tdiv 1048576 = r at *
  omega
variable {Φ : World → Prop} (hst : ∀ w w', Φ w → Below w.heap.size w w' → Φ w')
include hst
theorem s_Rq : Sound Tryz.prog Φ ΓRq :=
  Sound.cons (by kernel_rfl) (fun args p v h hp => by unfold sFxFactor at h; split at h <;> cases h; exact c_r4reaches hst _)
  (Sound.cons (by kernel_rfl) (fun args p v h hp => by unfold sFxZero at h; split at h <;> cases h; exact c_r4zero hst _ _)
  (Sound.cons (by kernel_rfl) (fun args p v h hp => by unfold sTurned4 at h; split at h <;> cases h; exact c_r4turned hst hp)
  (Sound.cons (by kernel_rfl) (fun args p v h hp => by unfold sBig4 at h; split at h <;> cases h; exact c_r4big hst hp.1 hp.2.1 hp.2.2)
  (Sound.cons (by kernel_rfl) (fun args p v h hp => by unfold sCorners4 at h; split at h <;> cases h; exact c_r4corners hst hp) Sound.nil))))
theorem c_r4quo {a b c d n : Int} (h1 : FixV a b) (h2 : FixV c d) (hc : 0 < c) (hn : Q40 n) : Ans Tryz.prog Φ 31 [wid a b, wid c d, num n] (quoAns a b c d n) := by
  refine fn_by hst (s_Rq hst) (vc_r4quo a b c d n _) ?_
  have hn' : (!decide (Q40 n)) = false := by rw [decide_eq_true hn]; rfl
  have hz : decide (c ≤ 0 ∧ 0 ≤ d) = false := decide_eq_false (by omega)
  have k1 := h1
  have k2 := h2
  unfold FixV at k1 k2
  have qa : Q31 a := by unfold Q31; omega
  have qb : Q31 b := by unfold Q31; omega
  rw [hn', hz, bcase_false, bcase_false]
  have i1 := fl_ce (x := a) (n := n) hc
  have i3 := fl_ce (x := b) (n := n) hc
  have hLH : qL a b c d n ≤ qH a b c d n := by unfold qL qH; omega
  refine ⟨trivial, trivial, hc, ⟨qa, hn, hc⟩, bcase_iff.mpr ⟨fun q => ?_, fun q => ⟨⟨qb, hn, hc⟩, bcase_iff.mpr ⟨fun r => ?_, fun r => ?_⟩⟩⟩⟩
  · refine no_ok fun o => ?_
    have out := big_out hc q
    unfold okF qL qH at o
    omega
  · refine no_ok fun o => ?_
    have out := big_out hc r
    unfold okF qL qH at o
    omega
  · refine ⟨⟨not_big qa hn hc (Int.le_refl _) (by omega) q, not_big qa hn hc k2.2.1 k2.2.2 q, not_big qb hn hc (Int.le_refl _) (by omega) r, not_big qb hn hc k2.2.1 k2.2.2 r⟩, trivial, bcase_iff.mpr ⟨fun s => ?_, fun s => ⟨trivial, bcase_iff.mpr ⟨fun t => ?_, fun t => ?_⟩⟩⟩⟩
    · refine no_ok (fun o => ?_)
      have s : ¬ Q40 (qL a b c d n) := by simpa using s
      apply s
      unfold okF at o
      unfold Q40
      omega
    · refine no_ok (fun o => ?_)
      have t : ¬ Q40 (qH a b c d n) := by simpa using t
      apply t
      unfold okF at o
      unfold Q40
      omega
    · have s : Q40 (qL a b c d n) := by simpa using s
      have t : Q40 (qH a b c d n) := by simpa using t
      have o : okF a b c d n := ⟨s.1, t.2⟩
      unfold quoAns
      rw [gate_t o, gate_t o, pick_t o]
end Go.Proofs.YtidhogcijghogaaGreatDoor

/- Quotients of intervals of one sign. -/
namespace Go.Proofs.YtidhogcijghogaaGreatDoor
open Go Go.Abs Go.RowKit
set_option linter.unusedVariables false
set_option linter.unusedSimpArgs false
theorem fl_iff {A m x : Int} (hm : 0 < m) : x ≤ A / m ↔ x * m ≤ A := Int.le_ediv_iff_mul_le hm
theorem ce_iff {A m z : Int} (hm : 0 < m) : -(-A / m) ≤ z ↔ A ≤ z * m := by
  have h := fl_iff (A := -A) (x := -z) hm
  rw [Int.neg_mul] at h
  omega
/-! Quotients of an interval of one sign. -/
theorem ediv_den {x c d : Int} (hx : 0 ≤ x) (hc : 0 < c) (hcd : c ≤ d) : x / d ≤ x / c := by
  apply (fl_iff hc).mpr
  have a := (fl_iff (A := x) (show 0 < d by omega)).mp (Int.le_refl _)
  have n := Int.ediv_nonneg hx (show 0 ≤ d by omega)
  have := Int.mul_le_mul_of_nonneg_left hcd n
  omega
theorem ediv_den' {x c d : Int} (hx : x ≤ 0) (hc : 0 < c) (hcd : c ≤ d) : x / c ≤ x / d := by
  apply (fl_iff (show 0 < d by omega)).mpr
  have a := (fl_iff (A := x) hc).mp (Int.le_refl _)
  have n : x / c ≤ 0 := by
    have := Int.ediv_le_ediv hc hx
    rw [Int.zero_ediv] at this
    exact this
  have := Int.mul_le_mul_of_nonpos_left n hcd
  omega
theorem q_pos {a b c d n : Int} (ha : 0 ≤ a) (hab : a ≤ b) (hc : 0 < c) (hcd : c ≤ d) (hn : 0 ≤ n) : qL a b c d n = a * n / d ∧ qH a b c d n = -(-(b * n) / c) := by
  have m := Int.mul_le_mul_of_nonneg_right hab hn
  have a0 := Int.mul_nonneg ha hn
  have hd : 0 < d := by omega
  have i1 := ediv_den a0 hc hcd
  have i2 := ediv_den (x := b * n) (by omega) hc hcd
  have i3 := Int.ediv_le_ediv hd m
  have j1 := ediv_den' (x := -(a * n)) (by omega) hc hcd
  have j2 := ediv_den' (x := -(b * n)) (by omega) hc hcd
  have j3 := Int.ediv_le_ediv hc (show -(b * n) ≤ -(a * n) by omega)
  unfold qL qH flQ ceQ
  omega
theorem q_neg {a b c d n : Int} (hb : b ≤ 0) (hab : a ≤ b) (hc : 0 < c) (hcd : c ≤ d) (hn : 0 ≤ n) : qL a b c d n = a * n / c ∧ qH a b c d n = -(-(b * n) / d) := by
  have m := Int.mul_le_mul_of_nonneg_right hab hn
  have b0 := Int.mul_nonneg (show 0 ≤ -b by omega) hn
  rw [Int.neg_mul] at b0
  have hd : 0 < d := by omega
  have i1 := ediv_den' (x := a * n) (by omega) hc hcd
  have i2 := ediv_den' (x := b * n) (by omega) hc hcd
  have i3 := Int.ediv_le_ediv hc m
  have j1 := ediv_den (x := -(a * n)) (by omega) hc hcd
  have j2 := ediv_den (x := -(b * n)) (by omega) hc hcd
  have j3 := Int.ediv_le_ediv hd (show -(b * n) ≤ -(a * n) by omega)
  unfold qL qH flQ ceQ
  omega
theorem up_ge (p : Int) : sinP p ≤ upI p ∧ upI p ≤ sinP p + 1 := by unfold upI; split <;> omega
/-- A lesser quotient. -/
theorem ediv_less {x y c d : Int} (hxy : x ≤ y) (hy : 0 ≤ y) (hc : 0 < c) (hcd : c ≤ d) : x / d ≤ y / c :=
  Int.le_trans (Int.ediv_le_ediv (by omega) hxy) (ediv_den hy hc hcd)
theorem ediv_less' {x y c d : Int} (hxy : x ≤ y) (hx : x ≤ 0) (hc : 0 < c) (hcd : c ≤ d) : x / c ≤ y / d :=
  Int.le_trans (ediv_den' hx hc hcd) (Int.ediv_le_ediv (by omega) hxy)
theorem ediv_np {x c : Int} (hx : x ≤ 0) (hc : 0 < c) : x / c ≤ 0 := by
  have := Int.ediv_le_ediv hc hx
  rw [Int.zero_ediv] at this
  exact this
theorem enc_fix {a b : Int} (h : a ≤ b) : FixV (encL a b) (encH a b) := by
  have r1 := ends_range a
  have r2 := ends_range b
  have e1 := ends_eq a
  have l1 : loI a ≤ hiE a := by rw [e1]; split <;> omega
  unfold FixV encL encH
  split <;> split <;> omega
end Go.Proofs.YtidhogcijghogaaGreatDoor
