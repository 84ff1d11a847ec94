/- What the functions of angle over numbers and arcs answer. -/
import Derived.Test.YtcejlhgjcoidpaaDoorProg
import Derived.Test.YtcejlhgjcoidpaaDoorAbs
import Derived.Test.YtcejlhgjcoidpaaDoorBase
namespace Go.Proofs.YtcejlhgjcoidpaaDoor
open Go Go.Abs Go.RowKit

def Fit (n : Int) : Prop := -1099511627776 ≤ n ∧ n ≤ 1099511627776
instance (n : Int) : Decidable (Fit n) := by unfold Fit; infer_instance
def Val (a b : Int) : Prop := a ≤ b ∧ -1099511627776 ≤ a ∧ b ≤ 1099511627776
instance (a b : Int) : Decidable (Val a b) := by unfold Val; infer_instance
instance (n : Int) : Decidable (I64 n) := by unfold I64; infer_instance
abbrev arc (a b : Int) : Value := .agg ⟨[.int .i64 a, .int .i64 b]⟩
abbrev pair (a b : Value) : Value := .tuple ⟨[a, b]⟩
abbrev num (n : Int) : Value := .int .i64 n
def sFits : FSpec := fun | [.int .i64 n] => some (True, .bool (decide (Fit n))) | _ => none
def sVal : FSpec := fun | [.agg ⟨[.int .i64 a, .int .i64 b]⟩] => some (True, .bool (decide (Val a b))) | _ => none
def sWrap : FSpec := fun | [.int .i64 n] => some (True, num (n % 21600000)) | _ => none
def signed (n : Int) : Int := if n % 21600000 < 10800000 then n % 21600000 else n % 21600000 - 21600000
def sSigned : FSpec := fun | [.int .i64 n] => some (True, num (signed n)) | _ => none
def Den (d : Int) : Prop := 1 ≤ d ∧ d ≤ 9223372036854775807
def sFloor : FSpec := fun | [.int .i64 n, .int .i64 d] => some (I64 n ∧ Den d, num (n / d)) | _ => none
def sCeil : FSpec := fun | [.int .i64 n, .int .i64 d] => some (I64 n ∧ Den d ∧ I64 (-(-n / d)), num (-(-n / d))) | _ => none
def pick (c : Prop) [Decidable c] (x y : Int) : Int := if c then x else y
def gate (c : Prop) [Decidable c] (x : Int) : Int := if c then x else 0
def sResult : FSpec := fun | [.int .i64 a, .int .i64 b] => some (True, pair (arc (gate (Fit a ∧ Fit b) a) (gate (Fit a ∧ Fit b) b)) (num (pick (Fit a ∧ Fit b) 0 5))) | _ => none
def sInside : FSpec := fun | [.agg ⟨[.int .i64 a, .int .i64 b]⟩, .agg ⟨[.int .i64 c, .int .i64 d]⟩] => some (True, .bool (decide (Val a b ∧ Val c d ∧ c ≤ a ∧ b ≤ d))) | _ => none
/-- Two valid arcs and one that fits. -/
def ok2 (a b c d x y : Int) : Prop := Val a b ∧ Val c d ∧ Fit x ∧ Fit y
instance (a b c d x y : Int) : Decidable (ok2 a b c d x y) := by unfold ok2; infer_instance
def er2 (a b c d x y : Int) : Int := if Val a b ∧ Val c d then (if Fit x ∧ Fit y then 0 else 5) else 1
def sAdd : FSpec := fun | [.agg ⟨[.int .i64 a, .int .i64 b]⟩, .agg ⟨[.int .i64 c, .int .i64 d]⟩] => some (True, pair (arc (gate (ok2 a b c d (a + c) (b + d)) (a + c)) (gate (ok2 a b c d (a + c) (b + d)) (b + d))) (num (er2 a b c d (a + c) (b + d)))) | _ => none
def sNeg : FSpec := fun | [.agg ⟨[.int .i64 a, .int .i64 b]⟩] => some (True, pair (arc (gate (Val a b) (-b)) (gate (Val a b) (-a))) (num (pick (Val a b) 0 1))) | _ => none
def sSub : FSpec := fun | [.agg ⟨[.int .i64 a, .int .i64 b]⟩, .agg ⟨[.int .i64 c, .int .i64 d]⟩] => some (True, pair (arc (gate (ok2 a b c d (a - d) (b - c)) (a - d)) (gate (ok2 a b c d (a - d) (b - c)) (b - c))) (num (er2 a b c d (a - d) (b - c)))) | _ => none
def Frac (m d : Int) : Prop := -1048576 ≤ m ∧ m ≤ 1048576 ∧ 1 ≤ d ∧ d ≤ 1048576
instance (m d : Int) : Decidable (Frac m d) := by unfold Frac; infer_instance
def tLo (a b m d : Int) : Int := min (a * m) (b * m) / d
def tHi (a b m d : Int) : Int := -(-(max (a * m) (b * m)) / d)
def okT (a b m d : Int) : Prop := Val a b ∧ Frac m d ∧ Fit (tLo a b m d) ∧ Fit (tHi a b m d)
instance (a b m d : Int) : Decidable (okT a b m d) := by unfold okT; infer_instance
def erT (a b m d : Int) : Int := if Val a b then (if Frac m d then (if Fit (tLo a b m d) ∧ Fit (tHi a b m d) then 0 else 5) else 2) else 1
def sTimes : FSpec := fun | [.agg ⟨[.int .i64 a, .int .i64 b]⟩, .int .i64 m, .int .i64 d] => some (True, pair (arc (gate (okT a b m d) (tLo a b m d)) (gate (okT a b m d) (tHi a b m d))) (num (erT a b m d))) | _ => none
def two (a b c d : Int) : Prop := Val a b ∧ Val c d
instance (a b c d : Int) : Decidable (two a b c d) := by unfold two; infer_instance
def sHull : FSpec := fun | [.agg ⟨[.int .i64 a, .int .i64 b]⟩, .agg ⟨[.int .i64 c, .int .i64 d]⟩] => some (True, pair (arc (gate (two a b c d) (min a c)) (gate (two a b c d) (max b d))) (num (pick (two a b c d) 0 1))) | _ => none
def meets (a b c d : Int) : Prop := Val a b ∧ Val c d ∧ max a c ≤ min b d
instance (a b c d : Int) : Decidable (meets a b c d) := by unfold meets; infer_instance
def sMeet : FSpec := fun | [.agg ⟨[.int .i64 a, .int .i64 b]⟩, .agg ⟨[.int .i64 c, .int .i64 d]⟩] => some (True, pair (arc (gate (meets a b c d) (max a c)) (gate (meets a b c d) (min b d))) (num (pick (two a b c d) (pick (max a c ≤ min b d) 0 23) 1))) | _ => none
def dLo (a b : Int) : Int := if Val a b then (if b - a < 21600000 then a % 21600000 else 0) else 0
def dHi (a b : Int) : Int := if Val a b then (if b - a < 21600000 then a % 21600000 + (b - a) else 21600000) else 0
def sTurn : FSpec := fun | [.agg ⟨[.int .i64 a, .int .i64 b]⟩] => some (True, pair (arc (dLo a b) (dHi a b)) (num (pick (Val a b) 0 1))) | _ => none
def agree (a b c d : Int) : Prop := Val a b ∧ Val c d ∧ ((c - a) % 21600000 ≤ b - a ∨ (a - c) % 21600000 ≤ d - c)
instance (a b c d : Int) : Decidable (agree a b c d) := by unfold agree; infer_instance
def sAgree : FSpec := fun | [.agg ⟨[.int .i64 a, .int .i64 b]⟩, .agg ⟨[.int .i64 c, .int .i64 d]⟩] => some (True, pair (.bool (decide (agree a b c d))) (num (pick (two a b c d) 0 1))) | _ => none
/-- The reference's, of valid arcs. -/
def sR5Times : FSpec := fun | [.agg ⟨[.int .i64 a, .int .i64 b]⟩, .int .i64 m, .int .i64 d] => some (Val a b ∧ Frac m d, arc (tLo a b m d) (tHi a b m d)) | _ => none
def sR5TimesPos : FSpec := fun | [.agg ⟨[.int .i64 a, .int .i64 b]⟩, .int .i64 m, .int .i64 d] => some (Val a b ∧ Frac m d ∧ 0 ≤ m, arc (tLo a b m d) (tHi a b m d)) | _ => none
def sFalse : FSpec := fun _ => some (False, num 0)
def sR5Turn : FSpec := fun | [.agg ⟨[.int .i64 a, .int .i64 b]⟩] => some (Val a b, arc (dLo a b) (dHi a b)) | _ => none
def sR5Agree : FSpec := fun | [.agg ⟨[.int .i64 a, .int .i64 b]⟩, .agg ⟨[.int .i64 c, .int .i64 d]⟩] => some (Val a b ∧ Val c d, .bool (decide (agree a b c d))) | _ => none
abbrev AA (f : Int → Int → Int → Int → Option (Prop × Value)) : FSpec := fun | [.agg ⟨[.int .i64 a, .int .i64 b]⟩, .agg ⟨[.int .i64 c, .int .i64 d]⟩] => f a b c d | _ => none
def sR5Inside : FSpec := AA fun a b c d => some (True, .bool (decide (c ≤ a ∧ b ≤ d)))
def sR5Meets : FSpec := AA fun a b c d => some (True, .bool (decide (a ≤ d ∧ c ≤ b)))
def sR5Hull : FSpec := AA fun a b c d => some (True, arc (min a c) (max b d))
def sR5Meet : FSpec := AA fun a b c d => some (True, arc (max a c) (min b d))
def sR5Add : FSpec := AA fun a b c d => some (I64 (a + c) ∧ I64 (b + d), arc (a + c) (b + d))
def sR5Sub : FSpec := AA fun a b c d => some (I64 (a - d) ∧ I64 (b - c), arc (a - d) (b - c))
def sR5Neg : FSpec := fun | [.agg ⟨[.int .i64 a, .int .i64 b]⟩] => some (I64 (-a) ∧ I64 (-b), arc (-b) (-a)) | _ => none
def sOne : FSpec := fun | [.int .i64 n] => some (True, arc n n) | _ => none
def Γ0 : List (FuncId × CSpec) := [(46, .v sFits), (14, .v sVal), (15, .v sVal), (12, .v sWrap), (18, .v sWrap), (48, .v sFloor), (49, .v sFloor), (50, .v sCeil), (47, .v sResult)]
def Γ1 : List (FuncId × CSpec) := (17, .v sR5Inside) :: (37, .v sR5Meets) :: (36, .v sR5Hull) :: (38, .v sR5Meet) :: (32, .v sR5Add) :: (33, .v sR5Sub) :: (29, .v sR5Neg) :: (25, .v sOne) :: (24, .v sAdd) :: (27, .v sNeg) :: Γ0
end Go.Proofs.YtcejlhgjcoidpaaDoor
