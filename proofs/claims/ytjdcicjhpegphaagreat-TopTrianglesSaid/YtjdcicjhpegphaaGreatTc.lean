/- TopTriangles: the angle and the excess: what the functions answer. TopTriangles: the angle and the excess: what they ask. TopTriangles: the angle and the excess: contracts. -/
import Derived.Test.YtjdcicjhpegphaaGreatTb
set_option linter.unusedSimpArgs false
set_option linter.unusedVariables false
namespace Go.Proofs.YtjdcicjhpegphaaGreat
open Go Go.Abs Go.RowKit Go.Sine
def SqOk2 (a b : Int) : Prop := FixO a b ∧ 0 ≤ b
def rtL (a : Int) : Int := rtI (max 0 a * 1073741824)
def rtH (b : Int) : Int := rtU (b * 1073741824)
def sSqt (rl ru : Int → Int) : FSpec := fun | [.agg ⟨[.int .i64 a, .int .i64 b]⟩] => some (SqOk2 a b, fxOk (rl a) (ru b)) | _ => none
structure AgPre (a a' b b' c c' : Int) : Prop where
  sa : SideV a a'
  sb : SideV b b'
  sc : SideV c c'
  low : 0 ≤ (agLow (b, b') (c, c')).2
  q : 0 < (agLow (b, b') (c, c')).1 → (agQ (a, a') (b, b') (c, c')).1 ≤ 1073741824 ∧ 0 ≤ (agQ (a, a') (b, b') (c, c')).2
structure AgIs (a a' b b' c c' l h x : Int) : Prop where
  e : (x = 21 ∧ (agLow (b, b') (c, c')).1 ≤ 0) ∨ (x = 24 ∧ 0 < (agLow (b, b') (c, c')).1) ∨ (x = 0 ∧ 0 < (agLow (b, b') (c, c')).1 ∧ l = (agP (a, a') (b, b') (c, c')).1 ∧ h = (agP (a, a') (b, b') (c, c')).2)
def qAg : QSpec := fun | [.agg ⟨[.int .i64 a, .int .i64 a']⟩, .agg ⟨[.int .i64 b, .int .i64 b']⟩, .agg ⟨[.int .i64 c, .int .i64 c']⟩] => some (AgPre a a' b b' c c', fun K => ∀ l h x, AgIs a a' b b' c c' l h x → K (pair (wid l h) (num x))) | _ => none
def ΓAg (sl sh : Int → Int → Int) (ml mh : Int → Int → Int → Int → Int) (tl th : Int → Int → Int → Int) (al ah : Int → Int) : List (FuncId × CSpec) := [(44, .v sSide), (47, .p pPl), (46, .p pMi), (45, .p (pPa tl th)), (49, .p (pSn sl sh)), (48, .p (pMu ml mh)), (50, .q qDv), (51, .v (sAhvG al ah))]
structure ExPre (a a' b b' c c' : Int) : Prop where
  sa : SideV a a'
  sb : SideV b b'
  sc : SideV c c'
  ok : OkP (exS (a, a') (b, b') (c, c')) ∧ OkP (exC (a, a') (b, b') (c, c'))
  s : 0 ≤ (exS (a, a') (b, b') (c, c')).2
  k : 0 ≤ (exC (a, a') (b, b') (c, c')).2
structure ExIs (a a' b b' c c' l h x : Int) : Prop where
  e : (x = 24 ∧ 21600000 ≤ (exZ (a, a') (b, b') (c, c')).2 - (exZ (a, a') (b, b') (c, c')).1) ∨ (x = 0 ∧ ¬ 21600000 ≤ (exZ (a, a') (b, b') (c, c')).2 - (exZ (a, a') (b, b') (c, c')).1 ∧ l = 4 * (exZ (a, a') (b, b') (c, c')).1 ∧ h = 4 * (exZ (a, a') (b, b') (c, c')).2)
def qEx : QSpec := fun | [.agg ⟨[.int .i64 a, .int .i64 a']⟩, .agg ⟨[.int .i64 b, .int .i64 b']⟩, .agg ⟨[.int .i64 c, .int .i64 c']⟩] => some (ExPre a a' b b' c c', fun K => ∀ l h x, ExIs a a' b b' c c' l h x → K (pair (wid l h) (num x))) | _ => none
def ZBv (z a b c d x y u v : Int) : Prop := ZBg z a b c d ∧ x = u ∧ y = v
def pBgV (zl zh : Int → Int → Int → Int → Int) (x y : Int) : PSpec := fun | [.agg ⟨[.int .i64 a, .int .i64 b]⟩, .agg ⟨[.int .i64 c, .int .i64 d]⟩], [.int .i64 z] => some (ZBv z a b c d x y (zl a b c d) (zh a b c d), wid x y) | _, _ => none
def ΓEx (sl sh kl kh : Int → Int → Int) (ml mh zl zh : Int → Int → Int → Int → Int) (tl th : Int → Int → Int → Int) (rl ru : Int → Int) (x y : Int) : List (FuncId × CSpec) := [(44, .v sSide), (47, .p pPl), (46, .p pMi), (45, .p (pPa tl th)), (49, .p (pSn sl sh)), (53, .p (pSn kl kh)), (48, .p (pMu ml mh)), (54, .v (sSqt rl ru)), (55, .p (pBgV zl zh x y))]
def AEx : FuncId → List (Nat × LoopBy) := fun _ => [(0, .times 3), (2, .times 4)]
end Go.Proofs.YtjdcicjhpegphaaGreat
namespace Go.Proofs.YtjdcicjhpegphaaGreat
open Go Go.Abs Go.RowKit Go.Sine
theorem vc_haangle (a a' b b' c c' : Int) (sl sh : Int → Int → Int) (ml mh : Int → Int → Int → Int → Int) (tl th : Int → Int → Int → Int) (al ah : Int → Int) (K : Value → Prop) : callsX Tryz.prog (ΓAg sl sh ml mh tl th al ah) (noAnn) 17 [wid a a', wid b b', wid c c'] K = (
 True ∧
 bcase (!decide (SideV a a')) (K (Value.tuple #[Value.agg #[Value.int IntKind.i64 0, Value.int IntKind.i64 0], Value.int IntKind.i64 1]))
 (True ∧
 bcase (!decide (SideV b b')) (K (Value.tuple #[Value.agg #[Value.int IntKind.i64 0, Value.int IntKind.i64 0], Value.int IntKind.i64 1]))
 (True ∧
 bcase (!decide (SideV c c')) (K (Value.tuple #[Value.agg #[Value.int IntKind.i64 0, Value.int IntKind.i64 0], Value.int IntKind.i64 1]))
 (ZQ2 0 a a' c c' ∧
 ZQ2 0 (a + c) (a' + c') b b' ∧
 ZTm 0 (a + c - b') (a' + c' - b) 1 2 ∧
 ZQ2 0 a a' b b' ∧
 ZQ2 0 (a + b) (a' + b') c c' ∧
 ZTm 0 (a + b - c') (a' + b' - c) 1 2 ∧
 ZA 0 (tl (a + c - b') 1 2) (th (a' + c' - b) 1 2) ∧
 ZA 0 (tl (a + b - c') 1 2) (th (a' + b' - c) 1 2) ∧
 ZO2 0 (sl (tl (a + c - b') 1 2) (th (a' + c' - b) 1 2)) (sh (tl (a + c - b') 1 2) (th (a' + c' - b) 1 2)) (sl (tl (a + b - c') 1 2) (th (a' + b' - c) 1 2)) (sh (tl (a + b - c') 1 2) (th (a' + b' - c) 1 2)) ∧
 ZA 0 b b' ∧
 ZA 0 c c' ∧
 ZO2 0 (sl b b') (sh b b') (sl c c') (sh c c') ∧
 DvOk (ml (sl (tl (a + c - b') 1 2) (th (a' + c' - b) 1 2)) (sh (tl (a + c - b') 1 2) (th (a' + c' - b) 1 2)) (sl (tl (a + b - c') 1 2) (th (a' + b' - c) 1 2)) (sh (tl (a + b - c') 1 2) (th (a' + b' - c) 1 2)))
 (mh (sl (tl (a + c - b') 1 2) (th (a' + c' - b) 1 2)) (sh (tl (a + c - b') 1 2) (th (a' + c' - b) 1 2)) (sl (tl (a + b - c') 1 2) (th (a' + b' - c) 1 2)) (sh (tl (a + b - c') 1 2) (th (a' + b' - c) 1 2))) (ml (sl b b') (sh b b') (sl c c') (sh c c')) (mh (sl b b') (sh b b') (sl c c') (sh c c')) ∧
 ∀ (l h x : Int),
 DvIs (ml (sl (tl (a + c - b') 1 2) (th (a' + c' - b) 1 2)) (sh (tl (a + c - b') 1 2) (th (a' + c' - b) 1 2)) (sl (tl (a + b - c') 1 2) (th (a' + b' - c) 1 2)) (sh (tl (a + b - c') 1 2) (th (a' + b' - c) 1 2)))
 (mh (sl (tl (a + c - b') 1 2) (th (a' + c' - b) 1 2)) (sh (tl (a + c - b') 1 2) (th (a' + c' - b) 1 2)) (sl (tl (a + b - c') 1 2) (th (a' + b' - c) 1 2)) (sh (tl (a + b - c') 1 2) (th (a' + b' - c) 1 2))) (ml (sl b b') (sh b b') (sl c c') (sh c c')) (mh (sl b b') (sh b b') (sl c c') (sh c c')) l h x →
 bcase (x == 16) (K (Value.tuple #[Value.agg #[Value.int IntKind.i64 0, Value.int IntKind.i64 0], Value.int IntKind.i64 21])) (bcase (x == 5) (K (Value.tuple #[Value.agg #[Value.int IntKind.i64 0, Value.int IntKind.i64 0], Value.int IntKind.i64 24])) (AhG l h ∧ K (Value.tuple #[Value.agg #[Value.int IntKind.i64 (al l), Value.int IntKind.i64 (ah h)], Value.int IntKind.i64 0]))))))) := by kernel_rfl
theorem vc_haexcess (a a' b b' c c' : Int) (sl sh kl kh : Int → Int → Int) (ml mh zl zh : Int → Int → Int → Int → Int) (tl th : Int → Int → Int → Int) (rl ru : Int → Int) (x y : Int) (K : Value → Prop) : callsX Tryz.prog (ΓEx sl sh kl kh ml mh zl zh tl th rl ru x y) (AEx) 21 [wid a a', wid b b', wid c c'] K = (
 True ∧
 bcase (!decide (SideV a a')) (K (Value.tuple #[Value.agg #[Value.int IntKind.i64 0, Value.int IntKind.i64 0], Value.int IntKind.i64 1]))
 (True ∧
 bcase (!decide (SideV b b')) (K (Value.tuple #[Value.agg #[Value.int IntKind.i64 0, Value.int IntKind.i64 0], Value.int IntKind.i64 1]))
 (True ∧
 bcase (!decide (SideV c c')) (K (Value.tuple #[Value.agg #[Value.int IntKind.i64 0, Value.int IntKind.i64 0], Value.int IntKind.i64 1]))
 (ZQ2 0 a a' b b' ∧
 ZQ2 0 (a + b) (a' + b') c c' ∧
 ZTm 0 (a + b + c) (a' + b' + c') 1 4 ∧
 ZQ2 0 b b' c c' ∧
 ZQ2 0 (b + c) (b' + c') a a' ∧
 ZTm 0 (b + c - a') (b' + c' - a) 1 4 ∧
 ZQ2 0 a a' c c' ∧
 ZQ2 0 (a + c) (a' + c') b b' ∧
 ZTm 0 (a + c - b') (a' + c' - b) 1 4 ∧
 ZQ2 0 a a' b b' ∧
 ZQ2 0 (a + b) (a' + b') c c' ∧
 ZTm 0 (a + b - c') (a' + b' - c) 1 4 ∧
 ZA 0 (tl (a + b + c) 1 4) (th (a' + b' + c') 1 4) ∧
 ZA 0 (tl (b + c - a') 1 4) (th (b' + c' - a) 1 4) ∧
 ZO2 0 (sl (tl (a + b + c) 1 4) (th (a' + b' + c') 1 4)) (sh (tl (a + b + c) 1 4) (th (a' + b' + c') 1 4)) (sl (tl (b + c - a') 1 4) (th (b' + c' - a) 1 4)) (sh (tl (b + c - a') 1 4) (th (b' + c' - a) 1 4)) ∧
 ZA 0 (tl (a + c - b') 1 4) (th (a' + c' - b) 1 4) ∧
 ZO2 0 (ml (sl (tl (a + b + c) 1 4) (th (a' + b' + c') 1 4)) (sh (tl (a + b + c) 1 4) (th (a' + b' + c') 1 4)) (sl (tl (b + c - a') 1 4) (th (b' + c' - a) 1 4)) (sh (tl (b + c - a') 1 4) (th (b' + c' - a) 1 4)))
 (mh (sl (tl (a + b + c) 1 4) (th (a' + b' + c') 1 4)) (sh (tl (a + b + c) 1 4) (th (a' + b' + c') 1 4)) (sl (tl (b + c - a') 1 4) (th (b' + c' - a) 1 4)) (sh (tl (b + c - a') 1 4) (th (b' + c' - a) 1 4))) (sl (tl (a + c - b') 1 4) (th (a' + c' - b) 1 4)) (sh (tl (a + c - b') 1 4) (th (a' + c' - b) 1 4)) ∧
 ZA 0 (tl (a + b - c') 1 4) (th (a' + b' - c) 1 4) ∧
 ZO2 0
 (ml (ml (sl (tl (a + b + c) 1 4) (th (a' + b' + c') 1 4)) (sh (tl (a + b + c) 1 4) (th (a' + b' + c') 1 4)) (sl (tl (b + c - a') 1 4) (th (b' + c' - a) 1 4)) (sh (tl (b + c - a') 1 4) (th (b' + c' - a) 1 4)))
 (mh (sl (tl (a + b + c) 1 4) (th (a' + b' + c') 1 4)) (sh (tl (a + b + c) 1 4) (th (a' + b' + c') 1 4)) (sl (tl (b + c - a') 1 4) (th (b' + c' - a) 1 4)) (sh (tl (b + c - a') 1 4) (th (b' + c' - a) 1 4))) (sl (tl (a + c - b') 1 4) (th (a' + c' - b) 1 4)) (sh (tl (a + c - b') 1 4) (th (a' + c' - b) 1 4)))
 (mh (ml (sl (tl (a + b + c) 1 4) (th (a' + b' + c') 1 4)) (sh (tl (a + b + c) 1 4) (th (a' + b' + c') 1 4)) (sl (tl (b + c - a') 1 4) (th (b' + c' - a) 1 4)) (sh (tl (b + c - a') 1 4) (th (b' + c' - a) 1 4)))
 (mh (sl (tl (a + b + c) 1 4) (th (a' + b' + c') 1 4)) (sh (tl (a + b + c) 1 4) (th (a' + b' + c') 1 4)) (sl (tl (b + c - a') 1 4) (th (b' + c' - a) 1 4)) (sh (tl (b + c - a') 1 4) (th (b' + c' - a) 1 4))) (sl (tl (a + c - b') 1 4) (th (a' + c' - b) 1 4)) (sh (tl (a + c - b') 1 4) (th (a' + c' - b) 1 4)))
 (sl (tl (a + b - c') 1 4) (th (a' + b' - c) 1 4)) (sh (tl (a + b - c') 1 4) (th (a' + b' - c) 1 4)) ∧
 ZA 0 (tl (a + b + c) 1 4) (th (a' + b' + c') 1 4) ∧
 ZA 0 (tl (b + c - a') 1 4) (th (b' + c' - a) 1 4) ∧
 ZO2 0 (kl (tl (a + b + c) 1 4) (th (a' + b' + c') 1 4)) (kh (tl (a + b + c) 1 4) (th (a' + b' + c') 1 4)) (kl (tl (b + c - a') 1 4) (th (b' + c' - a) 1 4)) (kh (tl (b + c - a') 1 4) (th (b' + c' - a) 1 4)) ∧
 ZA 0 (tl (a + c - b') 1 4) (th (a' + c' - b) 1 4) ∧
 ZO2 0 (ml (kl (tl (a + b + c) 1 4) (th (a' + b' + c') 1 4)) (kh (tl (a + b + c) 1 4) (th (a' + b' + c') 1 4)) (kl (tl (b + c - a') 1 4) (th (b' + c' - a) 1 4)) (kh (tl (b + c - a') 1 4) (th (b' + c' - a) 1 4)))
 (mh (kl (tl (a + b + c) 1 4) (th (a' + b' + c') 1 4)) (kh (tl (a + b + c) 1 4) (th (a' + b' + c') 1 4)) (kl (tl (b + c - a') 1 4) (th (b' + c' - a) 1 4)) (kh (tl (b + c - a') 1 4) (th (b' + c' - a) 1 4))) (kl (tl (a + c - b') 1 4) (th (a' + c' - b) 1 4)) (kh (tl (a + c - b') 1 4) (th (a' + c' - b) 1 4)) ∧
 ZA 0 (tl (a + b - c') 1 4) (th (a' + b' - c) 1 4) ∧
 ZO2 0
 (ml (ml (kl (tl (a + b + c) 1 4) (th (a' + b' + c') 1 4)) (kh (tl (a + b + c) 1 4) (th (a' + b' + c') 1 4)) (kl (tl (b + c - a') 1 4) (th (b' + c' - a) 1 4)) (kh (tl (b + c - a') 1 4) (th (b' + c' - a) 1 4)))
 (mh (kl (tl (a + b + c) 1 4) (th (a' + b' + c') 1 4)) (kh (tl (a + b + c) 1 4) (th (a' + b' + c') 1 4)) (kl (tl (b + c - a') 1 4) (th (b' + c' - a) 1 4)) (kh (tl (b + c - a') 1 4) (th (b' + c' - a) 1 4))) (kl (tl (a + c - b') 1 4) (th (a' + c' - b) 1 4)) (kh (tl (a + c - b') 1 4) (th (a' + c' - b) 1 4)))
 (mh (ml (kl (tl (a + b + c) 1 4) (th (a' + b' + c') 1 4)) (kh (tl (a + b + c) 1 4) (th (a' + b' + c') 1 4)) (kl (tl (b + c - a') 1 4) (th (b' + c' - a) 1 4)) (kh (tl (b + c - a') 1 4) (th (b' + c' - a) 1 4)))
 (mh (kl (tl (a + b + c) 1 4) (th (a' + b' + c') 1 4)) (kh (tl (a + b + c) 1 4) (th (a' + b' + c') 1 4)) (kl (tl (b + c - a') 1 4) (th (b' + c' - a) 1 4)) (kh (tl (b + c - a') 1 4) (th (b' + c' - a) 1 4))) (kl (tl (a + c - b') 1 4) (th (a' + c' - b) 1 4)) (kh (tl (a + c - b') 1 4) (th (a' + c' - b) 1 4)))
 (kl (tl (a + b - c') 1 4) (th (a' + b' - c) 1 4)) (kh (tl (a + b - c') 1 4) (th (a' + b' - c) 1 4)) ∧
 SqOk2
 (ml
 (ml (ml (sl (tl (a + b + c) 1 4) (th (a' + b' + c') 1 4)) (sh (tl (a + b + c) 1 4) (th (a' + b' + c') 1 4)) (sl (tl (b + c - a') 1 4) (th (b' + c' - a) 1 4)) (sh (tl (b + c - a') 1 4) (th (b' + c' - a) 1 4)))
 (mh (sl (tl (a + b + c) 1 4) (th (a' + b' + c') 1 4)) (sh (tl (a + b + c) 1 4) (th (a' + b' + c') 1 4)) (sl (tl (b + c - a') 1 4) (th (b' + c' - a) 1 4)) (sh (tl (b + c - a') 1 4) (th (b' + c' - a) 1 4))) (sl (tl (a + c - b') 1 4) (th (a' + c' - b) 1 4)) (sh (tl (a + c - b') 1 4) (th (a' + c' - b) 1 4)))
 (mh (ml (sl (tl (a + b + c) 1 4) (th (a' + b' + c') 1 4)) (sh (tl (a + b + c) 1 4) (th (a' + b' + c') 1 4)) (sl (tl (b + c - a') 1 4) (th (b' + c' - a) 1 4)) (sh (tl (b + c - a') 1 4) (th (b' + c' - a) 1 4)))
 (mh (sl (tl (a + b + c) 1 4) (th (a' + b' + c') 1 4)) (sh (tl (a + b + c) 1 4) (th (a' + b' + c') 1 4)) (sl (tl (b + c - a') 1 4) (th (b' + c' - a) 1 4)) (sh (tl (b + c - a') 1 4) (th (b' + c' - a) 1 4))) (sl (tl (a + c - b') 1 4) (th (a' + c' - b) 1 4)) (sh (tl (a + c - b') 1 4) (th (a' + c' - b) 1 4)))
 (sl (tl (a + b - c') 1 4) (th (a' + b' - c) 1 4)) (sh (tl (a + b - c') 1 4) (th (a' + b' - c) 1 4)))
 (mh
 (ml (ml (sl (tl (a + b + c) 1 4) (th (a' + b' + c') 1 4)) (sh (tl (a + b + c) 1 4) (th (a' + b' + c') 1 4)) (sl (tl (b + c - a') 1 4) (th (b' + c' - a) 1 4)) (sh (tl (b + c - a') 1 4) (th (b' + c' - a) 1 4)))
 (mh (sl (tl (a + b + c) 1 4) (th (a' + b' + c') 1 4)) (sh (tl (a + b + c) 1 4) (th (a' + b' + c') 1 4)) (sl (tl (b + c - a') 1 4) (th (b' + c' - a) 1 4)) (sh (tl (b + c - a') 1 4) (th (b' + c' - a) 1 4))) (sl (tl (a + c - b') 1 4) (th (a' + c' - b) 1 4)) (sh (tl (a + c - b') 1 4) (th (a' + c' - b) 1 4)))
 (mh (ml (sl (tl (a + b + c) 1 4) (th (a' + b' + c') 1 4)) (sh (tl (a + b + c) 1 4) (th (a' + b' + c') 1 4)) (sl (tl (b + c - a') 1 4) (th (b' + c' - a) 1 4)) (sh (tl (b + c - a') 1 4) (th (b' + c' - a) 1 4)))
 (mh (sl (tl (a + b + c) 1 4) (th (a' + b' + c') 1 4)) (sh (tl (a + b + c) 1 4) (th (a' + b' + c') 1 4)) (sl (tl (b + c - a') 1 4) (th (b' + c' - a) 1 4)) (sh (tl (b + c - a') 1 4) (th (b' + c' - a) 1 4))) (sl (tl (a + c - b') 1 4) (th (a' + c' - b) 1 4)) (sh (tl (a + c - b') 1 4) (th (a' + c' - b) 1 4)))
 (sl (tl (a + b - c') 1 4) (th (a' + b' - c) 1 4)) (sh (tl (a + b - c') 1 4) (th (a' + b' - c) 1 4))) ∧
 SqOk2
 (ml
 (ml (ml (kl (tl (a + b + c) 1 4) (th (a' + b' + c') 1 4)) (kh (tl (a + b + c) 1 4) (th (a' + b' + c') 1 4)) (kl (tl (b + c - a') 1 4) (th (b' + c' - a) 1 4)) (kh (tl (b + c - a') 1 4) (th (b' + c' - a) 1 4)))
 (mh (kl (tl (a + b + c) 1 4) (th (a' + b' + c') 1 4)) (kh (tl (a + b + c) 1 4) (th (a' + b' + c') 1 4)) (kl (tl (b + c - a') 1 4) (th (b' + c' - a) 1 4)) (kh (tl (b + c - a') 1 4) (th (b' + c' - a) 1 4))) (kl (tl (a + c - b') 1 4) (th (a' + c' - b) 1 4)) (kh (tl (a + c - b') 1 4) (th (a' + c' - b) 1 4)))
 (mh (ml (kl (tl (a + b + c) 1 4) (th (a' + b' + c') 1 4)) (kh (tl (a + b + c) 1 4) (th (a' + b' + c') 1 4)) (kl (tl (b + c - a') 1 4) (th (b' + c' - a) 1 4)) (kh (tl (b + c - a') 1 4) (th (b' + c' - a) 1 4)))
 (mh (kl (tl (a + b + c) 1 4) (th (a' + b' + c') 1 4)) (kh (tl (a + b + c) 1 4) (th (a' + b' + c') 1 4)) (kl (tl (b + c - a') 1 4) (th (b' + c' - a) 1 4)) (kh (tl (b + c - a') 1 4) (th (b' + c' - a) 1 4))) (kl (tl (a + c - b') 1 4) (th (a' + c' - b) 1 4)) (kh (tl (a + c - b') 1 4) (th (a' + c' - b) 1 4)))
 (kl (tl (a + b - c') 1 4) (th (a' + b' - c) 1 4)) (kh (tl (a + b - c') 1 4) (th (a' + b' - c) 1 4)))
 (mh
 (ml (ml (kl (tl (a + b + c) 1 4) (th (a' + b' + c') 1 4)) (kh (tl (a + b + c) 1 4) (th (a' + b' + c') 1 4)) (kl (tl (b + c - a') 1 4) (th (b' + c' - a) 1 4)) (kh (tl (b + c - a') 1 4) (th (b' + c' - a) 1 4)))
 (mh (kl (tl (a + b + c) 1 4) (th (a' + b' + c') 1 4)) (kh (tl (a + b + c) 1 4) (th (a' + b' + c') 1 4)) (kl (tl (b + c - a') 1 4) (th (b' + c' - a) 1 4)) (kh (tl (b + c - a') 1 4) (th (b' + c' - a) 1 4))) (kl (tl (a + c - b') 1 4) (th (a' + c' - b) 1 4)) (kh (tl (a + c - b') 1 4) (th (a' + c' - b) 1 4)))
 (mh (ml (kl (tl (a + b + c) 1 4) (th (a' + b' + c') 1 4)) (kh (tl (a + b + c) 1 4) (th (a' + b' + c') 1 4)) (kl (tl (b + c - a') 1 4) (th (b' + c' - a) 1 4)) (kh (tl (b + c - a') 1 4) (th (b' + c' - a) 1 4)))
 (mh (kl (tl (a + b + c) 1 4) (th (a' + b' + c') 1 4)) (kh (tl (a + b + c) 1 4) (th (a' + b' + c') 1 4)) (kl (tl (b + c - a') 1 4) (th (b' + c' - a) 1 4)) (kh (tl (b + c - a') 1 4) (th (b' + c' - a) 1 4))) (kl (tl (a + c - b') 1 4) (th (a' + c' - b) 1 4)) (kh (tl (a + c - b') 1 4) (th (a' + c' - b) 1 4)))
 (kl (tl (a + b - c') 1 4) (th (a' + b' - c) 1 4)) (kh (tl (a + b - c') 1 4) (th (a' + b' - c) 1 4))) ∧
 ZBv 0
 (rl
 (ml
 (ml (ml (sl (tl (a + b + c) 1 4) (th (a' + b' + c') 1 4)) (sh (tl (a + b + c) 1 4) (th (a' + b' + c') 1 4)) (sl (tl (b + c - a') 1 4) (th (b' + c' - a) 1 4)) (sh (tl (b + c - a') 1 4) (th (b' + c' - a) 1 4)))
 (mh (sl (tl (a + b + c) 1 4) (th (a' + b' + c') 1 4)) (sh (tl (a + b + c) 1 4) (th (a' + b' + c') 1 4)) (sl (tl (b + c - a') 1 4) (th (b' + c' - a) 1 4)) (sh (tl (b + c - a') 1 4) (th (b' + c' - a) 1 4))) (sl (tl (a + c - b') 1 4) (th (a' + c' - b) 1 4)) (sh (tl (a + c - b') 1 4) (th (a' + c' - b) 1 4)))
 (mh (ml (sl (tl (a + b + c) 1 4) (th (a' + b' + c') 1 4)) (sh (tl (a + b + c) 1 4) (th (a' + b' + c') 1 4)) (sl (tl (b + c - a') 1 4) (th (b' + c' - a) 1 4)) (sh (tl (b + c - a') 1 4) (th (b' + c' - a) 1 4)))
 (mh (sl (tl (a + b + c) 1 4) (th (a' + b' + c') 1 4)) (sh (tl (a + b + c) 1 4) (th (a' + b' + c') 1 4)) (sl (tl (b + c - a') 1 4) (th (b' + c' - a) 1 4)) (sh (tl (b + c - a') 1 4) (th (b' + c' - a) 1 4))) (sl (tl (a + c - b') 1 4) (th (a' + c' - b) 1 4)) (sh (tl (a + c - b') 1 4) (th (a' + c' - b) 1 4)))
 (sl (tl (a + b - c') 1 4) (th (a' + b' - c) 1 4)) (sh (tl (a + b - c') 1 4) (th (a' + b' - c) 1 4))))
 (ru
 (mh
 (ml (ml (sl (tl (a + b + c) 1 4) (th (a' + b' + c') 1 4)) (sh (tl (a + b + c) 1 4) (th (a' + b' + c') 1 4)) (sl (tl (b + c - a') 1 4) (th (b' + c' - a) 1 4)) (sh (tl (b + c - a') 1 4) (th (b' + c' - a) 1 4)))
 (mh (sl (tl (a + b + c) 1 4) (th (a' + b' + c') 1 4)) (sh (tl (a + b + c) 1 4) (th (a' + b' + c') 1 4)) (sl (tl (b + c - a') 1 4) (th (b' + c' - a) 1 4)) (sh (tl (b + c - a') 1 4) (th (b' + c' - a) 1 4))) (sl (tl (a + c - b') 1 4) (th (a' + c' - b) 1 4)) (sh (tl (a + c - b') 1 4) (th (a' + c' - b) 1 4)))
 (mh (ml (sl (tl (a + b + c) 1 4) (th (a' + b' + c') 1 4)) (sh (tl (a + b + c) 1 4) (th (a' + b' + c') 1 4)) (sl (tl (b + c - a') 1 4) (th (b' + c' - a) 1 4)) (sh (tl (b + c - a') 1 4) (th (b' + c' - a) 1 4)))
 (mh (sl (tl (a + b + c) 1 4) (th (a' + b' + c') 1 4)) (sh (tl (a + b + c) 1 4) (th (a' + b' + c') 1 4)) (sl (tl (b + c - a') 1 4) (th (b' + c' - a) 1 4)) (sh (tl (b + c - a') 1 4) (th (b' + c' - a) 1 4))) (sl (tl (a + c - b') 1 4) (th (a' + c' - b) 1 4)) (sh (tl (a + c - b') 1 4) (th (a' + c' - b) 1 4)))
 (sl (tl (a + b - c') 1 4) (th (a' + b' - c) 1 4)) (sh (tl (a + b - c') 1 4) (th (a' + b' - c) 1 4))))
 (rl
 (ml
 (ml (ml (kl (tl (a + b + c) 1 4) (th (a' + b' + c') 1 4)) (kh (tl (a + b + c) 1 4) (th (a' + b' + c') 1 4)) (kl (tl (b + c - a') 1 4) (th (b' + c' - a) 1 4)) (kh (tl (b + c - a') 1 4) (th (b' + c' - a) 1 4)))
 (mh (kl (tl (a + b + c) 1 4) (th (a' + b' + c') 1 4)) (kh (tl (a + b + c) 1 4) (th (a' + b' + c') 1 4)) (kl (tl (b + c - a') 1 4) (th (b' + c' - a) 1 4)) (kh (tl (b + c - a') 1 4) (th (b' + c' - a) 1 4))) (kl (tl (a + c - b') 1 4) (th (a' + c' - b) 1 4)) (kh (tl (a + c - b') 1 4) (th (a' + c' - b) 1 4)))
 (mh (ml (kl (tl (a + b + c) 1 4) (th (a' + b' + c') 1 4)) (kh (tl (a + b + c) 1 4) (th (a' + b' + c') 1 4)) (kl (tl (b + c - a') 1 4) (th (b' + c' - a) 1 4)) (kh (tl (b + c - a') 1 4) (th (b' + c' - a) 1 4)))
 (mh (kl (tl (a + b + c) 1 4) (th (a' + b' + c') 1 4)) (kh (tl (a + b + c) 1 4) (th (a' + b' + c') 1 4)) (kl (tl (b + c - a') 1 4) (th (b' + c' - a) 1 4)) (kh (tl (b + c - a') 1 4) (th (b' + c' - a) 1 4))) (kl (tl (a + c - b') 1 4) (th (a' + c' - b) 1 4)) (kh (tl (a + c - b') 1 4) (th (a' + c' - b) 1 4)))
 (kl (tl (a + b - c') 1 4) (th (a' + b' - c) 1 4)) (kh (tl (a + b - c') 1 4) (th (a' + b' - c) 1 4))))
 (ru
 (mh
 (ml (ml (kl (tl (a + b + c) 1 4) (th (a' + b' + c') 1 4)) (kh (tl (a + b + c) 1 4) (th (a' + b' + c') 1 4)) (kl (tl (b + c - a') 1 4) (th (b' + c' - a) 1 4)) (kh (tl (b + c - a') 1 4) (th (b' + c' - a) 1 4)))
 (mh (kl (tl (a + b + c) 1 4) (th (a' + b' + c') 1 4)) (kh (tl (a + b + c) 1 4) (th (a' + b' + c') 1 4)) (kl (tl (b + c - a') 1 4) (th (b' + c' - a) 1 4)) (kh (tl (b + c - a') 1 4) (th (b' + c' - a) 1 4))) (kl (tl (a + c - b') 1 4) (th (a' + c' - b) 1 4)) (kh (tl (a + c - b') 1 4) (th (a' + c' - b) 1 4)))
 (mh (ml (kl (tl (a + b + c) 1 4) (th (a' + b' + c') 1 4)) (kh (tl (a + b + c) 1 4) (th (a' + b' + c') 1 4)) (kl (tl (b + c - a') 1 4) (th (b' + c' - a) 1 4)) (kh (tl (b + c - a') 1 4) (th (b' + c' - a) 1 4)))
 (mh (kl (tl (a + b + c) 1 4) (th (a' + b' + c') 1 4)) (kh (tl (a + b + c) 1 4) (th (a' + b' + c') 1 4)) (kl (tl (b + c - a') 1 4) (th (b' + c' - a) 1 4)) (kh (tl (b + c - a') 1 4) (th (b' + c' - a) 1 4))) (kl (tl (a + c - b') 1 4) (th (a' + c' - b) 1 4)) (kh (tl (a + c - b') 1 4) (th (a' + c' - b) 1 4)))
 (kl (tl (a + b - c') 1 4) (th (a' + b' - c) 1 4)) (kh (tl (a + b - c') 1 4) (th (a' + b' - c) 1 4))))
 x y
 (zl
 (rl
 (ml
 (ml (ml (sl (tl (a + b + c) 1 4) (th (a' + b' + c') 1 4)) (sh (tl (a + b + c) 1 4) (th (a' + b' + c') 1 4)) (sl (tl (b + c - a') 1 4) (th (b' + c' - a) 1 4)) (sh (tl (b + c - a') 1 4) (th (b' + c' - a) 1 4)))
 (mh (sl (tl (a + b + c) 1 4) (th (a' + b' + c') 1 4)) (sh (tl (a + b + c) 1 4) (th (a' + b' + c') 1 4)) (sl (tl (b + c - a') 1 4) (th (b' + c' - a) 1 4)) (sh (tl (b + c - a') 1 4) (th (b' + c' - a) 1 4))) (sl (tl (a + c - b') 1 4) (th (a' + c' - b) 1 4)) (sh (tl (a + c - b') 1 4) (th (a' + c' - b) 1 4)))
 (mh (ml (sl (tl (a + b + c) 1 4) (th (a' + b' + c') 1 4)) (sh (tl (a + b + c) 1 4) (th (a' + b' + c') 1 4)) (sl (tl (b + c - a') 1 4) (th (b' + c' - a) 1 4)) (sh (tl (b + c - a') 1 4) (th (b' + c' - a) 1 4)))
 (mh (sl (tl (a + b + c) 1 4) (th (a' + b' + c') 1 4)) (sh (tl (a + b + c) 1 4) (th (a' + b' + c') 1 4)) (sl (tl (b + c - a') 1 4) (th (b' + c' - a) 1 4)) (sh (tl (b + c - a') 1 4) (th (b' + c' - a) 1 4))) (sl (tl (a + c - b') 1 4) (th (a' + c' - b) 1 4)) (sh (tl (a + c - b') 1 4) (th (a' + c' - b) 1 4)))
 (sl (tl (a + b - c') 1 4) (th (a' + b' - c) 1 4)) (sh (tl (a + b - c') 1 4) (th (a' + b' - c) 1 4))))
 (ru
 (mh
 (ml (ml (sl (tl (a + b + c) 1 4) (th (a' + b' + c') 1 4)) (sh (tl (a + b + c) 1 4) (th (a' + b' + c') 1 4)) (sl (tl (b + c - a') 1 4) (th (b' + c' - a) 1 4)) (sh (tl (b + c - a') 1 4) (th (b' + c' - a) 1 4)))
 (mh (sl (tl (a + b + c) 1 4) (th (a' + b' + c') 1 4)) (sh (tl (a + b + c) 1 4) (th (a' + b' + c') 1 4)) (sl (tl (b + c - a') 1 4) (th (b' + c' - a) 1 4)) (sh (tl (b + c - a') 1 4) (th (b' + c' - a) 1 4))) (sl (tl (a + c - b') 1 4) (th (a' + c' - b) 1 4)) (sh (tl (a + c - b') 1 4) (th (a' + c' - b) 1 4)))
 (mh (ml (sl (tl (a + b + c) 1 4) (th (a' + b' + c') 1 4)) (sh (tl (a + b + c) 1 4) (th (a' + b' + c') 1 4)) (sl (tl (b + c - a') 1 4) (th (b' + c' - a) 1 4)) (sh (tl (b + c - a') 1 4) (th (b' + c' - a) 1 4)))
 (mh (sl (tl (a + b + c) 1 4) (th (a' + b' + c') 1 4)) (sh (tl (a + b + c) 1 4) (th (a' + b' + c') 1 4)) (sl (tl (b + c - a') 1 4) (th (b' + c' - a) 1 4)) (sh (tl (b + c - a') 1 4) (th (b' + c' - a) 1 4))) (sl (tl (a + c - b') 1 4) (th (a' + c' - b) 1 4)) (sh (tl (a + c - b') 1 4) (th (a' + c' - b) 1 4)))
 (sl (tl (a + b - c') 1 4) (th (a' + b' - c) 1 4)) (sh (tl (a + b - c') 1 4) (th (a' + b' - c) 1 4))))
 (rl
 (ml
 (ml (ml (kl (tl (a + b + c) 1 4) (th (a' + b' + c') 1 4)) (kh (tl (a + b + c) 1 4) (th (a' + b' + c') 1 4)) (kl (tl (b + c - a') 1 4) (th (b' + c' - a) 1 4)) (kh (tl (b + c - a') 1 4) (th (b' + c' - a) 1 4)))
 (mh (kl (tl (a + b + c) 1 4) (th (a' + b' + c') 1 4)) (kh (tl (a + b + c) 1 4) (th (a' + b' + c') 1 4)) (kl (tl (b + c - a') 1 4) (th (b' + c' - a) 1 4)) (kh (tl (b + c - a') 1 4) (th (b' + c' - a) 1 4))) (kl (tl (a + c - b') 1 4) (th (a' + c' - b) 1 4)) (kh (tl (a + c - b') 1 4) (th (a' + c' - b) 1 4)))
 (mh (ml (kl (tl (a + b + c) 1 4) (th (a' + b' + c') 1 4)) (kh (tl (a + b + c) 1 4) (th (a' + b' + c') 1 4)) (kl (tl (b + c - a') 1 4) (th (b' + c' - a) 1 4)) (kh (tl (b + c - a') 1 4) (th (b' + c' - a) 1 4)))
 (mh (kl (tl (a + b + c) 1 4) (th (a' + b' + c') 1 4)) (kh (tl (a + b + c) 1 4) (th (a' + b' + c') 1 4)) (kl (tl (b + c - a') 1 4) (th (b' + c' - a) 1 4)) (kh (tl (b + c - a') 1 4) (th (b' + c' - a) 1 4))) (kl (tl (a + c - b') 1 4) (th (a' + c' - b) 1 4)) (kh (tl (a + c - b') 1 4) (th (a' + c' - b) 1 4)))
 (kl (tl (a + b - c') 1 4) (th (a' + b' - c) 1 4)) (kh (tl (a + b - c') 1 4) (th (a' + b' - c) 1 4))))
 (ru
 (mh
 (ml (ml (kl (tl (a + b + c) 1 4) (th (a' + b' + c') 1 4)) (kh (tl (a + b + c) 1 4) (th (a' + b' + c') 1 4)) (kl (tl (b + c - a') 1 4) (th (b' + c' - a) 1 4)) (kh (tl (b + c - a') 1 4) (th (b' + c' - a) 1 4)))
 (mh (kl (tl (a + b + c) 1 4) (th (a' + b' + c') 1 4)) (kh (tl (a + b + c) 1 4) (th (a' + b' + c') 1 4)) (kl (tl (b + c - a') 1 4) (th (b' + c' - a) 1 4)) (kh (tl (b + c - a') 1 4) (th (b' + c' - a) 1 4))) (kl (tl (a + c - b') 1 4) (th (a' + c' - b) 1 4)) (kh (tl (a + c - b') 1 4) (th (a' + c' - b) 1 4)))
 (mh (ml (kl (tl (a + b + c) 1 4) (th (a' + b' + c') 1 4)) (kh (tl (a + b + c) 1 4) (th (a' + b' + c') 1 4)) (kl (tl (b + c - a') 1 4) (th (b' + c' - a) 1 4)) (kh (tl (b + c - a') 1 4) (th (b' + c' - a) 1 4)))
 (mh (kl (tl (a + b + c) 1 4) (th (a' + b' + c') 1 4)) (kh (tl (a + b + c) 1 4) (th (a' + b' + c') 1 4)) (kl (tl (b + c - a') 1 4) (th (b' + c' - a) 1 4)) (kh (tl (b + c - a') 1 4) (th (b' + c' - a) 1 4))) (kl (tl (a + c - b') 1 4) (th (a' + c' - b) 1 4)) (kh (tl (a + c - b') 1 4) (th (a' + c' - b) 1 4)))
 (kl (tl (a + b - c') 1 4) (th (a' + b' - c) 1 4)) (kh (tl (a + b - c') 1 4) (th (a' + b' - c) 1 4)))))
 (zh
 (rl
 (ml
 (ml (ml (sl (tl (a + b + c) 1 4) (th (a' + b' + c') 1 4)) (sh (tl (a + b + c) 1 4) (th (a' + b' + c') 1 4)) (sl (tl (b + c - a') 1 4) (th (b' + c' - a) 1 4)) (sh (tl (b + c - a') 1 4) (th (b' + c' - a) 1 4)))
 (mh (sl (tl (a + b + c) 1 4) (th (a' + b' + c') 1 4)) (sh (tl (a + b + c) 1 4) (th (a' + b' + c') 1 4)) (sl (tl (b + c - a') 1 4) (th (b' + c' - a) 1 4)) (sh (tl (b + c - a') 1 4) (th (b' + c' - a) 1 4))) (sl (tl (a + c - b') 1 4) (th (a' + c' - b) 1 4)) (sh (tl (a + c - b') 1 4) (th (a' + c' - b) 1 4)))
 (mh (ml (sl (tl (a + b + c) 1 4) (th (a' + b' + c') 1 4)) (sh (tl (a + b + c) 1 4) (th (a' + b' + c') 1 4)) (sl (tl (b + c - a') 1 4) (th (b' + c' - a) 1 4)) (sh (tl (b + c - a') 1 4) (th (b' + c' - a) 1 4)))
 (mh (sl (tl (a + b + c) 1 4) (th (a' + b' + c') 1 4)) (sh (tl (a + b + c) 1 4) (th (a' + b' + c') 1 4)) (sl (tl (b + c - a') 1 4) (th (b' + c' - a) 1 4)) (sh (tl (b + c - a') 1 4) (th (b' + c' - a) 1 4))) (sl (tl (a + c - b') 1 4) (th (a' + c' - b) 1 4)) (sh (tl (a + c - b') 1 4) (th (a' + c' - b) 1 4)))
 (sl (tl (a + b - c') 1 4) (th (a' + b' - c) 1 4)) (sh (tl (a + b - c') 1 4) (th (a' + b' - c) 1 4))))
 (ru
 (mh
 (ml (ml (sl (tl (a + b + c) 1 4) (th (a' + b' + c') 1 4)) (sh (tl (a + b + c) 1 4) (th (a' + b' + c') 1 4)) (sl (tl (b + c - a') 1 4) (th (b' + c' - a) 1 4)) (sh (tl (b + c - a') 1 4) (th (b' + c' - a) 1 4)))
 (mh (sl (tl (a + b + c) 1 4) (th (a' + b' + c') 1 4)) (sh (tl (a + b + c) 1 4) (th (a' + b' + c') 1 4)) (sl (tl (b + c - a') 1 4) (th (b' + c' - a) 1 4)) (sh (tl (b + c - a') 1 4) (th (b' + c' - a) 1 4))) (sl (tl (a + c - b') 1 4) (th (a' + c' - b) 1 4)) (sh (tl (a + c - b') 1 4) (th (a' + c' - b) 1 4)))
 (mh (ml (sl (tl (a + b + c) 1 4) (th (a' + b' + c') 1 4)) (sh (tl (a + b + c) 1 4) (th (a' + b' + c') 1 4)) (sl (tl (b + c - a') 1 4) (th (b' + c' - a) 1 4)) (sh (tl (b + c - a') 1 4) (th (b' + c' - a) 1 4)))
 (mh (sl (tl (a + b + c) 1 4) (th (a' + b' + c') 1 4)) (sh (tl (a + b + c) 1 4) (th (a' + b' + c') 1 4)) (sl (tl (b + c - a') 1 4) (th (b' + c' - a) 1 4)) (sh (tl (b + c - a') 1 4) (th (b' + c' - a) 1 4))) (sl (tl (a + c - b') 1 4) (th (a' + c' - b) 1 4)) (sh (tl (a + c - b') 1 4) (th (a' + c' - b) 1 4)))
 (sl (tl (a + b - c') 1 4) (th (a' + b' - c) 1 4)) (sh (tl (a + b - c') 1 4) (th (a' + b' - c) 1 4))))
 (rl
 (ml
 (ml (ml (kl (tl (a + b + c) 1 4) (th (a' + b' + c') 1 4)) (kh (tl (a + b + c) 1 4) (th (a' + b' + c') 1 4)) (kl (tl (b + c - a') 1 4) (th (b' + c' - a) 1 4)) (kh (tl (b + c - a') 1 4) (th (b' + c' - a) 1 4)))
 (mh (kl (tl (a + b + c) 1 4) (th (a' + b' + c') 1 4)) (kh (tl (a + b + c) 1 4) (th (a' + b' + c') 1 4)) (kl (tl (b + c - a') 1 4) (th (b' + c' - a) 1 4)) (kh (tl (b + c - a') 1 4) (th (b' + c' - a) 1 4))) (kl (tl (a + c - b') 1 4) (th (a' + c' - b) 1 4)) (kh (tl (a + c - b') 1 4) (th (a' + c' - b) 1 4)))
 (mh (ml (kl (tl (a + b + c) 1 4) (th (a' + b' + c') 1 4)) (kh (tl (a + b + c) 1 4) (th (a' + b' + c') 1 4)) (kl (tl (b + c - a') 1 4) (th (b' + c' - a) 1 4)) (kh (tl (b + c - a') 1 4) (th (b' + c' - a) 1 4)))
 (mh (kl (tl (a + b + c) 1 4) (th (a' + b' + c') 1 4)) (kh (tl (a + b + c) 1 4) (th (a' + b' + c') 1 4)) (kl (tl (b + c - a') 1 4) (th (b' + c' - a) 1 4)) (kh (tl (b + c - a') 1 4) (th (b' + c' - a) 1 4))) (kl (tl (a + c - b') 1 4) (th (a' + c' - b) 1 4)) (kh (tl (a + c - b') 1 4) (th (a' + c' - b) 1 4)))
 (kl (tl (a + b - c') 1 4) (th (a' + b' - c) 1 4)) (kh (tl (a + b - c') 1 4) (th (a' + b' - c) 1 4))))
 (ru
 (mh
 (ml (ml (kl (tl (a + b + c) 1 4) (th (a' + b' + c') 1 4)) (kh (tl (a + b + c) 1 4) (th (a' + b' + c') 1 4)) (kl (tl (b + c - a') 1 4) (th (b' + c' - a) 1 4)) (kh (tl (b + c - a') 1 4) (th (b' + c' - a) 1 4)))
 (mh (kl (tl (a + b + c) 1 4) (th (a' + b' + c') 1 4)) (kh (tl (a + b + c) 1 4) (th (a' + b' + c') 1 4)) (kl (tl (b + c - a') 1 4) (th (b' + c' - a) 1 4)) (kh (tl (b + c - a') 1 4) (th (b' + c' - a) 1 4))) (kl (tl (a + c - b') 1 4) (th (a' + c' - b) 1 4)) (kh (tl (a + c - b') 1 4) (th (a' + c' - b) 1 4)))
 (mh (ml (kl (tl (a + b + c) 1 4) (th (a' + b' + c') 1 4)) (kh (tl (a + b + c) 1 4) (th (a' + b' + c') 1 4)) (kl (tl (b + c - a') 1 4) (th (b' + c' - a) 1 4)) (kh (tl (b + c - a') 1 4) (th (b' + c' - a) 1 4)))
 (mh (kl (tl (a + b + c) 1 4) (th (a' + b' + c') 1 4)) (kh (tl (a + b + c) 1 4) (th (a' + b' + c') 1 4)) (kl (tl (b + c - a') 1 4) (th (b' + c' - a) 1 4)) (kh (tl (b + c - a') 1 4) (th (b' + c' - a) 1 4))) (kl (tl (a + c - b') 1 4) (th (a' + c' - b) 1 4)) (kh (tl (a + c - b') 1 4) (th (a' + c' - b) 1 4)))
 (kl (tl (a + b - c') 1 4) (th (a' + b' - c) 1 4)) (kh (tl (a + b - c') 1 4) (th (a' + b' - c) 1 4))))) ∧
 bcase (decide (IntKind.i64.wrap (y - x) ≥ 21600000)) (K (Value.tuple #[Value.agg #[Value.int IntKind.i64 0, Value.int IntKind.i64 0], Value.int IntKind.i64 24])) (ZTm 0 x y 4 1 ∧ K (Value.tuple #[Value.agg #[Value.int IntKind.i64 (tl x 4 1), Value.int IntKind.i64 (th y 4 1)], Value.int IntKind.i64 0])))))) := by kernel_rfl
end Go.Proofs.YtjdcicjhpegphaaGreat
namespace Go.Proofs.YtjdcicjhpegphaaGreat
open Go Go.Abs Go.RowKit Go.Sine
attribute [local irreducible] rtI rtU encL encH cL cH muL muH bL bH
theorem tm1L (x d : Int) : tmL x 1 d = x / d := by unfold tmL; rw [Int.mul_one]
theorem tm1H (x d : Int) : tmH x 1 d = -(-x / d) := by unfold tmH; rw [Int.mul_one]
theorem tm4L (x : Int) : tmL x 4 1 = 4 * x := by unfold tmL; omega
theorem tm4H (x : Int) : tmH x 4 1 = 4 * x := by unfold tmH; omega
theorem SideV.q {a b : Int} (h : SideV a b) : Q37 a b := by
  obtain ⟨h, h2, h3⟩ := h
  unfold ArcV at h
  unfold Q37
  omega
section
variable {Φ : World → Prop} (hst : ∀ w w', Φ w → Below w.heap.size w w' → Φ w')
include hst
theorem c_sqrt {a b : Int} (h : SqOk2 a b) : Ans Tryz.prog Φ 54 [wid a b] (fxOk (rtL a) (rtH b)) := by
  obtain ⟨h, b0⟩ := h
  have g := h
  unfold FixO at g
  have r := sq_range (p := (a, b)) h b0
  refine fn_by hst (Γ := ΓSq rtI) (Sound.cons (by kernel_rfl) (fun args p v hh hp => by unfold sFxValid at hh; split at hh <;> cases hh; exact c_fxvalid hst _ _) (Sound.cons (by kernel_rfl) (fun args p v hh hp => by unfold sRt at hh; split at hh <;> cases hh; exact c_root hst hp) Sound.nil)) (vc_fxsqrt a b rtI _) ?_
  have wb : IntKind.i64.wrap (b * 1073741824) = b * 1073741824 := wrap_in (by omega)
  have wa : IntKind.i64.wrap (max 0 a * 1073741824) = max 0 a * 1073741824 := wrap_in (by omega)
  have rb := rt_all (n := b * 1073741824) (by omega) (by omega)
  have rl := rt_le (n := b * 1073741824) (by omega) (by omega)
  have sq : rtI (b * 1073741824) * rtI (b * 1073741824) ≤ 1152921504606846976 := by
    have : rtI (b * 1073741824) * rtI (b * 1073741824) ≤ 1073741824 * 1073741824 := Int.mul_le_mul rl.1 rl.1 rb.1 (by decide)
    omega
  have ws : IntKind.i64.wrap (rtI (b * 1073741824) * rtI (b * 1073741824)) = rtI (b * 1073741824) * rtI (b * 1073741824) := by
    have := Int.mul_nonneg rb.1 rb.1
    exact wrap_in (by omega)
  have w1 : IntKind.i64.wrap (rtI (b * 1073741824) + 1) = rtI (b * 1073741824) + 1 := wrap_in (by omega)
  simp only [max_gt, wb, wa, ws, w1]
  rw [decide_eq_true h.v, decide_eq_false (show ¬ b < 0 by omega)]
  have oa : RtOk (max 0 a * 1073741824) := by unfold RtOk; omega
  have ob : RtOk (b * 1073741824) := by unfold RtOk; omega
  have el : (sqP (a, b)).1 = rtI (max 0 a * 1073741824) := rfl
  have eu : (sqP (a, b)).2 = rtU (b * 1073741824) := rfl
  rw [el, eu] at r
  refine ⟨trivial, ob, bcase_iff.mpr ⟨fun q => ⟨oa, trivial, ?_⟩, fun q => ⟨oa, trivial, ?_⟩⟩⟩
  · have q := of_decide_eq_true q
    have e : rtU (b * 1073741824) = rtI (b * 1073741824) + 1 := by unfold rtU; rw [if_pos q]
    rw [e] at r
    rw [decide_eq_true (show FixV (rtI (max 0 a * 1073741824)) (rtI (b * 1073741824) + 1) by unfold FixV; omega)]
    show _ = fxOk (rtL a) (rtH b)
    unfold rtH
    rw [e]
    rfl
  · have q := of_decide_eq_false q
    have e : rtU (b * 1073741824) = rtI (b * 1073741824) := by unfold rtU; rw [if_neg q]
    rw [e] at r
    rw [decide_eq_true (show FixV (rtI (max 0 a * 1073741824)) (rtI (b * 1073741824)) by unfold FixV; omega)]
    show _ = fxOk (rtL a) (rtH b)
    unfold rtH
    rw [e]
    rfl
theorem p_pl : ∀ args cell p v, pPl args cell = some (p, v) → p → PAns Tryz.prog Φ 47 args cell v := by
  intro args cell p v h hp
  unfold pPl at h
  split at h <;> cases h
  obtain ⟨h1, h2⟩ := hp
  cases h1
  exact zc_pans fun b T => m_haplus hst h2
theorem p_mi : ∀ args cell p v, pMi args cell = some (p, v) → p → PAns Tryz.prog Φ 46 args cell v := by
  intro args cell p v h hp
  unfold pMi at h
  split at h <;> cases h
  obtain ⟨h1, h2⟩ := hp
  cases h1
  exact zc_pans fun b T => m_haminus hst h2
theorem p_pa : ∀ args cell p v, pPa tmL tmH args cell = some (p, v) → p → PAns Tryz.prog Φ 45 args cell v := by
  intro args cell p v h hp
  unfold pPa at h
  split at h <;> cases h
  obtain ⟨h1, h2⟩ := hp
  cases h1
  exact zc_pans fun b T => m_hapart hst h2
theorem p_si : ∀ args cell p v, pSn encL encH args cell = some (p, v) → p → PAns Tryz.prog Φ 49 args cell v := by
  intro args cell p v h hp
  unfold pSn at h
  split at h <;> cases h
  obtain ⟨h1, h2⟩ := hp
  cases h1
  exact zc_pans fun b T => m_hasin hst h2
theorem p_co : ∀ args cell p v, pSn cL cH args cell = some (p, v) → p → PAns Tryz.prog Φ 53 args cell v := by
  intro args cell p v h hp
  unfold pSn at h
  split at h <;> cases h
  obtain ⟨h1, h2⟩ := hp
  cases h1
  exact zc_pans fun b T => m_hacos hst h2
theorem p_mu : ∀ args cell p v, pMu muL muH args cell = some (p, v) → p → PAns Tryz.prog Φ 48 args cell v := by
  intro args cell p v h hp
  unfold pMu at h
  split at h <;> cases h
  obtain ⟨h1, h2⟩ := hp
  cases h1
  exact zc_pans fun b T => m_hamul hst h2
theorem p_bg (x y : Int) : ∀ args cell p v, pBgV bL bH x y args cell = some (p, v) → p → PAns Tryz.prog Φ 55 args cell v := by
  intro args cell p v h hp
  unfold pBgV at h
  split at h <;> cases h
  obtain ⟨⟨h1, h2⟩, ex, ey⟩ := hp
  cases h1
  subst ex ey
  exact zc_pans fun b T => m_habearing hst h2
theorem s_Ag : Sound Tryz.prog Φ (ΓAg encL encH muL muH tmL tmH ahL ahH) :=
  Sound.cons (by kernel_rfl) (fun args p v h hp => by unfold sSide at h; split at h <;> cases h; exact c_haside hst _ _)
  (Sound.pcons (by kernel_rfl) (p_pl hst) (Sound.pcons (by kernel_rfl) (p_mi hst) (Sound.pcons (by kernel_rfl) (p_pa hst) (Sound.pcons (by kernel_rfl) (p_si hst) (Sound.pcons (by kernel_rfl) (p_mu hst)
  (Sound.qcons (by kernel_rfl) (h_dvP hst)
  (Sound.cons (by kernel_rfl) (fun args p v h hp => by unfold sAhvG at h; split at h <;> cases h; exact c_ahavG hst hp) Sound.nil)))))))
theorem s_Ex (x y : Int) : Sound Tryz.prog Φ (ΓEx encL encH cL cH muL muH bL bH tmL tmH rtL rtH x y) :=
  Sound.cons (by kernel_rfl) (fun args p v h hp => by unfold sSide at h; split at h <;> cases h; exact c_haside hst _ _)
  (Sound.pcons (by kernel_rfl) (p_pl hst) (Sound.pcons (by kernel_rfl) (p_mi hst) (Sound.pcons (by kernel_rfl) (p_pa hst) (Sound.pcons (by kernel_rfl) (p_si hst) (Sound.pcons (by kernel_rfl) (p_co hst) (Sound.pcons (by kernel_rfl) (p_mu hst)
  (Sound.cons (by kernel_rfl) (fun args p v h hp => by unfold sSqt at h; split at h <;> cases h; exact c_sqrt hst hp)
  (Sound.pcons (by kernel_rfl) (p_bg hst x y) Sound.nil))))))))
end
theorem half_ok {x y : Int} (h : x ≤ y) : x / 2 ≤ -(-y / 2) := by omega
theorem qt_ok {x y : Int} (h : x ≤ y) : x / 4 ≤ -(-y / 4) := by omega
section
variable {Φ : World → Prop} (hst : ∀ w w', Φ w → Below w.heap.size w w' → Φ w')
include hst
theorem h_angle : ∀ args p Q, qAg args = some (p, Q) → p → ∀ K, Q K → ∃ v, Ans Tryz.prog Φ 17 args v ∧ K v := by
  intro args p Q h hp K hK
  unfold qAg at h
  split at h <;> cases h
  rename_i a a' b b' c c'
  obtain ⟨ha, hb, hc, low, q⟩ := hp
  have qa := ha.q
  have qb := hb.q
  have qc := hc.q
  have ba := qa
  have bb := qb
  have bc := qc
  have ra := ha.2
  have rb := hb.2
  have rc := hc.2
  unfold Q37 at ba bb bc
  have x1 : a + c - b' ≤ a' + c' - b := by omega
  have y1 : a + b - c' ≤ a' + b' - c := by omega
  have sx := sin_ok (half_ok x1)
  have sy := sin_ok (half_ok y1)
  have sb := sin_ok bb.2.1
  have sc := sin_ok bc.2.1
  have top : FixO (agTop (a, a') (b, b') (c, c')).1 (agTop (a, a') (b, b') (c, c')).2 := mul_ok sx sy
  have lo : FixO (agLow (b, b') (c, c')).1 (agLow (b, b') (c, c')).2 := mul_ok sb sc
  have head : ∀ v : Value, (∀ (l h x : Int), DvIs (agTop (a, a') (b, b') (c, c')).1 (agTop (a, a') (b, b') (c, c')).2 (agLow (b, b') (c, c')).1 (agLow (b, b') (c, c')).2 l h x →
      bcase (x == 16) (Value.tuple #[Value.agg #[Value.int IntKind.i64 0, Value.int IntKind.i64 0], Value.int IntKind.i64 21] = v) (bcase (x == 5) (Value.tuple #[Value.agg #[Value.int IntKind.i64 0, Value.int IntKind.i64 0], Value.int IntKind.i64 24] = v) (AhG l h ∧ Value.tuple #[Value.agg #[Value.int IntKind.i64 (ahL l), Value.int IntKind.i64 (ahH h)], Value.int IntKind.i64 0] = v))) → Ans Tryz.prog Φ 17 [wid a a', wid b b', wid c c'] v := fun v hv => by
    refine fn_by hst (s_Ag hst) (vc_haangle a a' b b' c c' encL encH muL muH tmL tmH ahL ahH _) ?_
    simp only [tm1L, tm1H]
    rw [decide_eq_true ha, decide_eq_true hb, decide_eq_true hc]
    refine ⟨trivial, trivial, trivial, ⟨rfl, qa, qc⟩, ⟨rfl, by unfold Q37; omega, qb⟩, ⟨rfl, by unfold Q37; omega, by unfold Sm4; omega, by unfold Sm4; omega⟩, ⟨rfl, qa, qb⟩, ⟨rfl, by unfold Q37; omega, qc⟩, ⟨rfl, by unfold Q37; omega, by unfold Sm4; omega, by unfold Sm4; omega⟩, ⟨rfl, by unfold ArcV; omega⟩, ⟨rfl, by unfold ArcV; omega⟩, ⟨rfl, sx, sy⟩, ⟨rfl, qb.arc⟩, ⟨rfl, qc.arc⟩, ⟨rfl, sb, sc⟩, ⟨top, lo, low⟩, hv⟩
  by_cases hl : (agLow (b, b') (c, c')).1 ≤ 0
  · refine ⟨pair (wid 0 0) (num 21), head _ ?_, hK 0 0 21 ⟨.inl ⟨rfl, hl⟩⟩⟩
    rintro l h x ⟨e | e | e⟩
    · rw [e.1]
      exact rfl
    · omega
    · omega
  · have hl : 0 < (agLow (b, b') (c, c')).1 := by omega
    by_cases hv : FixV (agQ (a, a') (b, b') (c, c')).1 (agQ (a, a') (b, b') (c, c')).2
    · refine ⟨pair (wid (agP (a, a') (b, b') (c, c')).1 (agP (a, a') (b, b') (c, c')).2) (num 0), head _ ?_, hK _ _ 0 ⟨.inr (.inr ⟨rfl, hl, rfl, rfl⟩)⟩⟩
      rintro l h x ⟨e | e | e⟩
      · omega
      · exact absurd hv e.2.2
      · obtain ⟨e1, _, _, el, eh⟩ := e
        rw [e1, el, eh]
        exact ⟨⟨hv, q hl⟩, rfl⟩
    · refine ⟨pair (wid 0 0) (num 24), head _ ?_, hK 0 0 24 ⟨.inr (.inl ⟨rfl, hl⟩)⟩⟩
      rintro l h x ⟨e | e | e⟩
      · omega
      · rw [e.1]
        exact rfl
      · exact absurd e.2.2.1 hv
theorem h_excess : ∀ args p Q, qEx args = some (p, Q) → p → ∀ K, Q K → ∃ v, Ans Tryz.prog Φ 21 args v ∧ K v := by
  intro args p Q h hp K hK
  unfold qEx at h
  split at h <;> cases h
  rename_i a a' b b' c c'
  obtain ⟨ha, hb, hc, ok, s0, k0⟩ := hp
  have qa := ha.q
  have qb := hb.q
  have qc := hc.q
  have ba := qa
  have bb := qb
  have bc := qc
  have ra := ha.2
  have rb := hb.2
  have rc := hc.2
  unfold Q37 at ba bb bc
  have i0 : a + b + c ≤ a' + b' + c' := by omega
  have i1 : b + c - a' ≤ b' + c' - a := by omega
  have i2 : a + c - b' ≤ a' + c' - b := by omega
  have i3 : a + b - c' ≤ a' + b' - c := by omega
  have s1 := sin_ok (qt_ok i0)
  have s2 := sin_ok (qt_ok i1)
  have s3 := sin_ok (qt_ok i2)
  have s4 := sin_ok (qt_ok i3)
  have c1 := cos_ok (qt_ok i0)
  have c2 := cos_ok (qt_ok i1)
  have c3 := cos_ok (qt_ok i2)
  have c4 := cos_ok (qt_ok i3)
  have s12 := mul_ok s1 s2
  have s123 := mul_ok s12 s3
  have c12 := mul_ok c1 c2
  have c123 := mul_ok c12 c3
  have os : OkP (exS (a, a') (b, b') (c, c')) := ok.1
  have oc : OkP (exC (a, a') (b, b') (c, c')) := ok.2
  have g1 := sq_range os s0
  have g2 := sq_range oc k0
  have v1 : FixV (sqP (exS (a, a') (b, b') (c, c'))).1 (sqP (exS (a, a') (b, b') (c, c'))).2 := ⟨by omega, g1.2.1, by omega⟩
  have v2 : FixV (sqP (exC (a, a') (b, b') (c, c'))).1 (sqP (exC (a, a') (b, b') (c, c'))).2 := ⟨by omega, g2.2.1, by omega⟩
  have zr := b_range (sqP (exS (a, a') (b, b') (c, c'))).1 (sqP (exS (a, a') (b, b') (c, c'))).2 (sqP (exC (a, a') (b, b') (c, c'))).1 (sqP (exC (a, a') (b, b') (c, c'))).2
  have zr : (0 ≤ (exZ (a, a') (b, b') (c, c')).1 ∧ (exZ (a, a') (b, b') (c, c')).1 < 21600000) ∧ (exZ (a, a') (b, b') (c, c')).1 ≤ (exZ (a, a') (b, b') (c, c')).2 ∧ (exZ (a, a') (b, b') (c, c')).2 ≤ (exZ (a, a') (b, b') (c, c')).1 + 21600000 := zr
  have head : ∀ v : Value, (bcase (decide (IntKind.i64.wrap ((exZ (a, a') (b, b') (c, c')).2 - (exZ (a, a') (b, b') (c, c')).1) ≥ 21600000)) (Value.tuple #[Value.agg #[Value.int IntKind.i64 0, Value.int IntKind.i64 0], Value.int IntKind.i64 24] = v)
      (ZTm 0 (exZ (a, a') (b, b') (c, c')).1 (exZ (a, a') (b, b') (c, c')).2 4 1 ∧ Value.tuple #[Value.agg #[Value.int IntKind.i64 (tmL (exZ (a, a') (b, b') (c, c')).1 4 1), Value.int IntKind.i64 (tmH (exZ (a, a') (b, b') (c, c')).2 4 1)], Value.int IntKind.i64 0] = v)) → Ans Tryz.prog Φ 21 [wid a a', wid b b', wid c c'] v := fun v hv => by
    refine fn_by hst (s_Ex hst (exZ (a, a') (b, b') (c, c')).1 (exZ (a, a') (b, b') (c, c')).2) (vc_haexcess a a' b b' c c' encL encH cL cH muL muH bL bH tmL tmH rtL rtH (exZ (a, a') (b, b') (c, c')).1 (exZ (a, a') (b, b') (c, c')).2 _) ?_
    rw [decide_eq_true ha, decide_eq_true hb, decide_eq_true hc]
    have m : Sm4 1 ∧ Sm4 4 := by unfold Sm4; omega
    have A : ∀ {x y : Int}, x ≤ y → -32400000 ≤ x → y ≤ 32400000 → ArcV (tmL x 1 4) (tmH y 1 4) := fun h h1 h2 => by rw [tm1L, tm1H]; unfold ArcV; omega
    have a0 := A i0 (by omega) (by omega)
    have a1 := A i1 (by omega) (by omega)
    have a2 := A i2 (by omega) (by omega)
    have a3 := A i3 (by omega) (by omega)
    clear A
    simp only [tm1L, tm1H] at a0 a1 a2 a3 ⊢
    refine ⟨trivial, trivial, trivial, ⟨rfl, qa, qb⟩, ⟨rfl, by unfold Q37; omega, qc⟩, ⟨rfl, by unfold Q37; omega, m⟩, ⟨rfl, qb, qc⟩, ⟨rfl, by unfold Q37; omega, qa⟩, ⟨rfl, by unfold Q37; omega, m⟩, ⟨rfl, qa, qc⟩, ⟨rfl, by unfold Q37; omega, qb⟩, ⟨rfl, by unfold Q37; omega, m⟩, ⟨rfl, qa, qb⟩, ⟨rfl, by unfold Q37; omega, qc⟩, ⟨rfl, by unfold Q37; omega, m⟩,
      ⟨rfl, a0⟩, ⟨rfl, a1⟩, ⟨rfl, s1, s2⟩, ⟨rfl, a2⟩, ⟨rfl, s12, s3⟩, ⟨rfl, a3⟩, ⟨rfl, s123, s4⟩, ⟨rfl, a0⟩, ⟨rfl, a1⟩, ⟨rfl, c1, c2⟩, ⟨rfl, a2⟩, ⟨rfl, c12, c3⟩, ⟨rfl, a3⟩, ⟨rfl, c123, c4⟩, ⟨os, s0⟩, ⟨oc, k0⟩, ⟨⟨rfl, v1, v2⟩, rfl, rfl⟩, hv⟩
  have wz : IntKind.i64.wrap ((exZ (a, a') (b, b') (c, c')).2 - (exZ (a, a') (b, b') (c, c')).1) = (exZ (a, a') (b, b') (c, c')).2 - (exZ (a, a') (b, b') (c, c')).1 := wrap_in (by omega)
  by_cases hz : 21600000 ≤ (exZ (a, a') (b, b') (c, c')).2 - (exZ (a, a') (b, b') (c, c')).1
  · refine ⟨pair (wid 0 0) (num 24), head _ ?_, hK 0 0 24 ⟨.inl ⟨rfl, hz⟩⟩⟩
    rw [wz, decide_eq_true hz]
    exact rfl
  · refine ⟨pair (wid (4 * (exZ (a, a') (b, b') (c, c')).1) (4 * (exZ (a, a') (b, b') (c, c')).2)) (num 0), head _ ?_, hK _ _ 0 ⟨.inr ⟨rfl, hz, rfl, rfl⟩⟩⟩
    rw [wz, decide_eq_false (show ¬ (exZ (a, a') (b, b') (c, c')).2 - (exZ (a, a') (b, b') (c, c')).1 ≥ 21600000 from hz), tm4L, tm4H]
    exact ⟨⟨rfl, by unfold Q37; omega, by unfold Sm4; omega, by unfold Sm4; omega⟩, rfl⟩
end
end Go.Proofs.YtjdcicjhpegphaaGreat
