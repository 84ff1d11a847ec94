/- Refraction: what the functions of the program and of the reference answer. -/
import Derived.Test.YtidhogcijghogaaGreatDoorRfrB
namespace Go.Proofs.YtidhogcijghogaaGreatDoor
open Go Go.Abs Go.RowKit
set_option linter.unusedVariables false
def sTrSin : FSpec := fun | [.agg ⟨[.int .i64 a, .int .i64 b]⟩] => some (ArcV a b, pair (wid (encL a b) (encH a b)) (num 0)) | _ => none
def sTrCos : FSpec := fun | [.agg ⟨[.int .i64 a, .int .i64 b]⟩] => some (ArcV a b, pair (wid (cL a b) (cH a b)) (num 0)) | _ => none
def sR6Sin : FSpec := fun | [.agg ⟨[.int .i64 a, .int .i64 b]⟩] => some (ArcV a b, wid (encL a b) (encH a b)) | _ => none
def sR6Cos : FSpec := fun | [.agg ⟨[.int .i64 a, .int .i64 b]⟩] => some (ArcV a b, wid (cL a b) (cH a b)) | _ => none
def QuoP (a b c d n : Int) : Prop := FixV a b ∧ FixV c d ∧ 0 < c ∧ Q40 n
def sQuo : FSpec := fun | [.agg ⟨[.int .i64 a, .int .i64 b]⟩, .agg ⟨[.int .i64 c, .int .i64 d]⟩, .int .i64 n] => some (QuoP a b c d n, quoAns a b c d n) | _ => none
def sVal5 : FSpec := fun | [.agg ⟨[.int .i64 a, .int .i64 b]⟩] => some (True, .bool (decide (ArcV a b))) | _ => none
def sFl4 : FSpec := fun | [.int .i64 n, .int .i64 d] => some (I64 n ∧ 0 < d, num (n / d)) | _ => none
def sCe4 : FSpec := fun | [.int .i64 n, .int .i64 d] => some (I64 n ∧ I64 (-n) ∧ 0 < d, num (-(-n / d))) | _ => none
def sBent : FSpec := fun | [.int .i64 u] => some (RU u, wid (bL u) (bH u)) | _ => none
def sOne : FSpec := fun | [.int .i64 u] => some (RU u, wid (oneL u) (oneH u)) | _ => none
/-- An arc of apparent altitudes. -/
def InA (a b : Int) : Prop := -60000 ≤ a ∧ b ≤ 5400000
instance (a b : Int) : Decidable (InA a b) := by unfold InA; infer_instance
def okA (a b : Int) : Prop := ArcV a b ∧ InA a b
instance (a b : Int) : Decidable (okA a b) := by unfold okA; infer_instance
def sMean1 : FSpec := fun | [.agg ⟨[.int .i64 a, .int .i64 b]⟩] => some (okA a b, wid (oneL b) (oneH a)) | _ => none
def chkE (a b : Int) : Int := pick (ArcV a b) (pick (InA a b) 0 2) 1
def sCheck : FSpec := fun | [.agg ⟨[.int .i64 a, .int .i64 b]⟩] => some (True, num (chkE a b)) | _ => none
def sMean : FSpec := fun | [.agg ⟨[.int .i64 a, .int .i64 b]⟩] => some (True, pair (wid (gate (okA a b) (oneL b)) (gate (okA a b) (oneH a))) (num (chkE a b))) | _ => none
def sWth : FSpec := fun | [.int .i64 t, .int .i64 p] => some (True, .bool (decide (Wth t p))) | _ => none
def sWithin : FSpec := fun | [.agg ⟨[.int .i64 a, .int .i64 b]⟩] => some (True, .bool (decide (InA a b))) | _ => none
/-- The factor in lowest terms. -/
def gF (t p : Int) : Int := ((numF p).toNat.gcd (denF t).toNat : Nat)
def fN (t p : Int) : Int := numF p / gF t p
def fD (t p : Int) : Int := denF t / gF t p
def sFactor : FSpec := fun | [.int .i64 t, .int .i64 p] => some (True, pair (wid (gate (Wth t p) (fN t p)) (gate (Wth t p) (fD t p))) (num (pick (Wth t p) 0 2))) | _ => none
def sFactorR : FSpec := fun | [.int .i64 t, .int .i64 p] => some (Wth t p, wid (fN t p) (fD t p)) | _ => none
/-- A number that refraction meets. -/
def Q20 (n : Int) : Prop := -1048576 ≤ n ∧ n ≤ 1048576
def tmL (a t p : Int) : Int := a * numF p / denF t
def tmH (b t p : Int) : Int := -(-(b * numF p) / denF t)
def sTimes : FSpec := fun | [.agg ⟨[.int .i64 a, .int .i64 b]⟩, .int .i64 t, .int .i64 p] => some (Q20 a ∧ Q20 b ∧ Wth t p, wid (tmL a t p) (tmH b t p)) | _ => none
def okT (a b t p : Int) : Prop := okA a b ∧ Wth t p
instance (a b t p : Int) : Decidable (okT a b t p) := by unfold okT; infer_instance
def atE (a b t p : Int) : Int := pick (ArcV a b) (pick (InA a b ∧ Wth t p) 0 2) 1
def sAt : FSpec := fun | [.agg ⟨[.int .i64 a, .int .i64 b]⟩, .int .i64 t, .int .i64 p] => some (True, pair (wid (gate (okT a b t p) (atL b t p)) (gate (okT a b t p) (atH a t p))) (num (atE a b t p))) | _ => none
def sAtR : FSpec := fun | [.agg ⟨[.int .i64 a, .int .i64 b]⟩, .int .i64 t, .int .i64 p] => some (okT a b t p, wid (atL b t p) (atH a t p)) | _ => none
def sPoint : FSpec := fun | [.int .i64 u, .int .i64 t, .int .i64 p] => some (RU u ∧ Wth t p, wid (atL u t p) (atH u t p)) | _ => none
/-- The literal of times: a product over the divisor, rounded down. -/
def kDown : KSpec := fun | [.int .i64 x], [[.int .i64 n], [.int .i64 d]] => some (Q20 x ∧ 0 ≤ n ∧ n ≤ 4000000 ∧ 0 < d ∧ d ≤ 4000000, num (x * n / d)) | _, _ => none
/-- Greatest common divisors. -/
def sGcd : FSpec := fun | [.int .u64 a, .int .u64 b] => some (U64 a ∧ U64 b, .int .u64 (a.toNat.gcd b.toNat : Nat)) | _ => none
def annGcd (a b : Int) : Ann where
  σ := Int × Int
  st := fun s x => ⟨lset (lset (keepA s 12 []) 0 (.v (.int .u64 x.1))) 1 (.v (.int .u64 x.2)), s.2⟩
  inv := fun s x => U64 x.1 ∧ U64 x.2 ∧ x.1.toNat.gcd x.2.toNat = a.toNat.gcd b.toNat
  μ := fun _ x => x.2.toNat
def ΓRo : List (FuncId × CSpec) := [(25, .v sBent), (26, .v sTrCos), (27, .v sTrSin), (28, .v sQuo)]
def ΓRp : List (FuncId × CSpec) := [(50, .v sCe4)]
def ΓRq20 : List (FuncId × CSpec) := [(30, .v sBent), (32, .v sR6Cos), (33, .v sR6Sin), (31, .v sQuo)]
def ΓRm : List (FuncId × CSpec) := [(13, .v sOne)]
def ΓRm20 : List (FuncId × CSpec) := [(15, .v sOne)]
def ΓRv : List (FuncId × CSpec) := [(23, .v sVal5)]
def ΓRM : List (FuncId × CSpec) := [(17, .v sCheck), (18, .v sMean1)]
def ΓRA : List (FuncId × CSpec) := [(17, .v sCheck), (18, .v sMean1), (19, .v sWth)]
def ΓRA20 : List (FuncId × CSpec) := [(66, .v sFl4), (50, .v sCe4)]
def ΓRg : List (FuncId × CSpec) := [(36, .v sGcd)]
/-- Fractions of positive numbers that refraction meets. -/
def sMake : FSpec := fun | [.int .i64 a, .int .i64 b] => some (1 ≤ a ∧ a ≤ 4000000 ∧ 1 ≤ b ∧ b ≤ 4000000, pair (wid (a / (a.toNat.gcd b.toNat : Nat)) (b / (a.toNat.gcd b.toNat : Nat))) (num 0)) | _ => none
def ΓRf : List (FuncId × CSpec) := [(19, .v sWth), (20, .v sMake)]
def ΓR4c : List (FuncId × CSpec) := [(66, .v sFl4)]
def annGcd20 (a b : Int) : Ann where
  σ := Int × Int
  st := fun s x => ⟨lset (lset (keepA s 29 [4, 5, 6]) 7 (.v (.int .i64 x.1))) 8 (.v (.int .i64 x.2)), s.2⟩
  inv := fun s x => 0 ≤ x.1 ∧ x.1 ≤ 4000000 ∧ 0 ≤ x.2 ∧ x.2 ≤ 4000000 ∧ x.1.toNat.gcd x.2.toNat = a.toNat.gcd b.toNat
  μ := fun _ x => x.2.toNat
def ΓRP20 : List (FuncId × CSpec) := []
/-! Apparent altitudes. -/
structure Ap (a b t p lo hi : Int) : Prop where
  is : ArcV a b → Wth t p → LoIs a t p lo ∧ HiIs b t p hi
def okP (a b t p lo hi : Int) : Prop := ArcV a b ∧ Wth t p ∧ Inn lo hi
instance (a b t p lo hi : Int) : Decidable (okP a b t p lo hi) := by unfold okP; infer_instance
def apE (a b t p lo hi : Int) : Int := pick (ArcV a b) (pick (Wth t p ∧ Inn lo hi) 0 2) 1
def sApp : QSpec := fun | [.agg ⟨[.int .i64 a, .int .i64 b]⟩, .int .i64 t, .int .i64 p] => some (True, fun K => ∀ lo hi, Ap a b t p lo hi → K (pair (wid (gate (okP a b t p lo hi) lo) (gate (okP a b t p lo hi) hi)) (num (apE a b t p lo hi)))) | _ => none
/-- Between the rounds of a search. -/
structure SR (Q : Int → Prop) (i j : Int) : Prop where
  i0 : 0 ≤ i
  ij : i ≤ j
  jn : j ≤ 5460001
  lo : ∀ k, 0 ≤ k → k < i → ¬ Q k
  hi : ∀ k, j ≤ k → k < 5460001 → Q k
structure L1 (a t p low high : Int) : Prop where
  l0 : -60001 ≤ low
  lh : low < high
  h1 : high ≤ 5400001
  ins : ∀ u, RU u → u ≤ low → u - atL u t p ≤ a
  out : ∀ u, RU u → high ≤ u → a < u - atL u t p
structure L2 (b t p low high : Int) : Prop where
  l0 : -60001 ≤ low
  lh : low < high
  h1 : high ≤ 5400001
  out : ∀ u, RU u → u ≤ low → u - atH u t p < b
  ins : ∀ u, RU u → high ≤ u → b ≤ u - atH u t p
def annSrch (a b t p : Int) : Ann where
  σ := Int × Int
  st := fun s x => ⟨lset (lset (keepA s 26 [0, 1]) 5 (.v (.int .i64 x.1))) 6 (.v (.int .i64 x.2)), s.hp⟩
  inv := fun s x => match s.hp.length with | 6 => SR (Pr1 a t p) x.1 x.2 | _ => SR (Pr2 b t p) x.1 x.2
  μ := fun _ x => (x.2 - x.1).toNat
def ASrch (a b t p : Int) : FuncId → List (Nat × LoopBy) := fun _ => [(0, .ann (annSrch a b t p))]
/-- The literals that tell whether an altitude is beyond, or not before. -/
def kBeyond : KSpec := fun | [.int .i64 u, .agg ⟨[.int .i64 r, .int .i64 _]⟩], [[.int .i64 a, .int .i64 _]] => some (RU u ∧ Q20 r, .bool (decide (a < u - r))) | _, _ => none
def kNot : KSpec := fun | [.int .i64 u, .agg ⟨[.int .i64 _, .int .i64 r]⟩], [[.int .i64 _, .int .i64 b]] => some (RU u ∧ Q20 r, .bool (decide (b ≤ u - r))) | _, _ => none
def annL1 (a t p : Int) : Ann where
  σ := Int × Int
  st := fun s x => ⟨lset (lset (keepA s 76 [1, 2, 3, 6, 7]) 8 (.v (.int .i64 x.1))) 9 (.v (.int .i64 x.2)), s.hp⟩
  inv := fun _ x => L1 a t p x.1 x.2
  μ := fun _ x => (x.2 - x.1).toNat
def annL2 (b t p : Int) : Ann where
  σ := Int × Int
  st := fun s x => ⟨lset (lset (keepA s 76 [1, 2, 3, 6, 7, 11]) 8 (.v (.int .i64 x.1))) 9 (.v (.int .i64 x.2)), s.hp⟩
  inv := fun _ x => L2 b t p x.1 x.2
  μ := fun _ x => (x.2 - x.1).toNat
def AApp (a b t p : Int) : FuncId → List (Nat × LoopBy) := fun _ => [(0, .ann (annL1 a t p)), (2, .ann (annL2 b t p))]
/-! The laws. -/
def sYes20 : FSpec := fun | [] => some (True, .bool true) | _ => none
def ΓLk : List (FuncId × CSpec) := [(8, .v sMean), (9, .v sFactor)]
def ΓLm : List (FuncId × CSpec) := [(4, .v sYes20), (8, .v sMean), (9, .v sFactor)]
def ΓLl : List (FuncId × CSpec) := [(4, .v sYes20)]
def ΓLw : List (FuncId × CSpec) := [(4, .v sYes20), (9, .v sFactor)]
def ΓLb : List (FuncId × CSpec) := [(4, .v sYes20)]
def ΓLa20 : List (FuncId × CSpec) := [(4, .v sYes20)]
end Go.Proofs.YtidhogcijghogaaGreatDoor
