/- Several texts in one: AteS, AteV, AteC, TrjA, AtfS, AtfV, AtfC. Several texts in one: CkS, CkV, CkC, CsS, CsV, FixT, FixU, FixD, FixE, FixF, FixG, CsC. -/
import Derived.Test.YtjdcicjhpegphaaGreatGd
import Derived.Test.YtjdcicjhpegphaaGreatGc
import Derived.Test.YtjdcicjhpegphaaGreatGa
set_option linter.unusedSimpArgs false
set_option linter.unusedVariables false
/- The directions of a box: what the functions answer. -/
namespace Go.Proofs.YtjdcicjhpegphaaGreat
open Go Go.Abs Go.RowKit
def befI (x y z u : Int) : Bool := decide (x * u ≥ y * z)
def Fx2 (x : Int) : Prop := -2147483648 ≤ x ∧ x ≤ 2147483648
def BfOk (x y z u : Int) : Prop := Fx2 x ∧ Fx2 y ∧ Fx2 z ∧ Fx2 u
def sBef (bf : Int → Int → Int → Int → Bool) : FSpec := fun | [.agg ⟨[.int .i64 x, .int .i64 y]⟩, .agg ⟨[.int .i64 z, .int .i64 u]⟩] => some (BfOk x y z u, .bool (bf x y z u)) | _ => none
def sAng (ap : Int → Int → Int) (ex : Int → Int → Bool) : FSpec := fun | [.agg ⟨[.int .i64 x, .int .i64 y]⟩] => some (PlOk x y, pair (num (ap x y)) (.bool (ex x y))) | _ => none
def ΓBe (ap : Int → Int → Int) (ex : Int → Int → Bool) (bf : Int → Int → Int → Int → Bool) : List (FuncId × CSpec) := [(91, .v sFxValid), (122, .v (sBef bf)), (123, .v (sAng ap ex))]
structure Fo where
  a : Int
  b : Int
  c : Int
  d : Int
structure FoR (fa fb fc fd : Int → Int) (i a b c d : Int) : Prop where
  ea : a = fa i
  eb : b = fb i
  ec : c = fc i
  ed : d = fd i
def joinBe (fa fb fc fd : Int → Int) : Ann where
  σ := Fo
  st := fun s v => ⟨keepA s 103 [2, 3, 4, 5, 6, 7, 8, 68, 69], setCs ⟨[], setCs s 4 [.v (.int .i64 v.a), .v (.int .i64 v.b)]⟩ 5 [.v (.int .i64 v.c), .v (.int .i64 v.d)]⟩
  inv := fun s v => FoR fa fb fc fd (intA s 69) v.a v.b v.c v.d
  μ := fun _ _ => 0
def ABe (fa fb fc fd : Int → Int) : FuncId → List (Nat × LoopBy) := fun _ => [(0, .times 5), (1, .join (joinBe fa fb fc fd))]
end Go.Proofs.YtjdcicjhpegphaaGreat
/- The directions of a box: what the function asks. -/
namespace Go.Proofs.YtjdcicjhpegphaaGreat
open Go Go.Abs Go.RowKit
theorem vc_atbearing (yl yh xl xh : Int) (ap : Int → Int → Int) (ex : Int → Int → Bool) (bf : Int → Int → Int → Int → Bool) (fa fb fc fd : Int → Int) (K : Value → Prop) : callsX Tryz.prog (ΓBe ap ex bf) (ABe fa fb fc fd) 77 [wid yl yh, wid xl xh] K = (
 True ∧
 bcase (!decide (FixV xl xh)) (K (Value.tuple #[Value.agg #[Value.int IntKind.i64 0, Value.int IntKind.i64 0], Value.int IntKind.i64 1]))
 (True ∧
 bcase (!decide (FixV yl yh)) (K (Value.tuple #[Value.agg #[Value.int IntKind.i64 0, Value.int IntKind.i64 0], Value.int IntKind.i64 1]))
 (bcase (decide (xl ≤ 0))
 (bcase (decide (xh ≥ 0))
 (bcase (decide (yl ≤ 0))
 (bcase (decide (yh ≥ 0)) (K (Value.tuple #[Value.agg #[Value.int IntKind.i64 0, Value.int IntKind.i64 21600000], Value.int IntKind.i64 0]))
 ((∀ (s : Fo),
 FoR fa fb fc fd 0 s.1 s.2 s.3 s.4 →
 (∀ (s : Fo),
 FoR fa fb fc fd (IntKind.i64.wrap (0 + 1)) s.1 s.2 s.3 s.4 →
 (∀ (s : Fo),
 FoR fa fb fc fd (IntKind.i64.wrap (IntKind.i64.wrap (0 + 1) + 1)) s.1 s.2 s.3 s.4 →
 (∀ (s : Fo),
 FoR fa fb fc fd (IntKind.i64.wrap (IntKind.i64.wrap (IntKind.i64.wrap (0 + 1) + 1) + 1)) s.1 s.2 s.3 s.4 →
 PlOk s.1 s.2 ∧
 PlOk s.3 s.4 ∧
 bcase (decide (ap s.c s.d < ap s.a s.b))
 (bcase (!ex s.c s.d) (K (Value.tuple #[Value.agg #[Value.int IntKind.i64 (ap s.a s.b), Value.int IntKind.i64 (IntKind.i64.wrap (IntKind.i64.wrap (ap s.c s.d + 21600000) + 1))], Value.int IntKind.i64 0])) (K (Value.tuple #[Value.agg #[Value.int IntKind.i64 (ap s.a s.b), Value.int IntKind.i64 (IntKind.i64.wrap (ap s.c s.d + 21600000))], Value.int IntKind.i64 0])))
 (bcase (!ex s.c s.d) (K (Value.tuple #[Value.agg #[Value.int IntKind.i64 (ap s.a s.b), Value.int IntKind.i64 (IntKind.i64.wrap (ap s.c s.d + 1))], Value.int IntKind.i64 0])) (K (Value.tuple #[Value.agg #[Value.int IntKind.i64 (ap s.a s.b), Value.int IntKind.i64 (ap s.c s.d)], Value.int IntKind.i64 0])))) ∧
 BfOk xh yh s.1 s.2 ∧
 bcase (bf xh yh s.a s.b)
 (BfOk s.3 s.4 xh yh ∧
 bcase (bf s.c s.d xh yh)
 (∃ (s : Fo),
 (Int.ofNat 0 = 0 ∧
 Value.agg #[Value.int IntKind.i64 xl, Value.int IntKind.i64 yl, Value.int IntKind.i64 xl, Value.int IntKind.i64 yh, Value.int IntKind.i64 xh, Value.int IntKind.i64 yl, Value.int IntKind.i64 xh, Value.int IntKind.i64 yh] =
 Value.agg #[Value.int IntKind.i64 xl, Value.int IntKind.i64 yl, Value.int IntKind.i64 xl, Value.int IntKind.i64 yh, Value.int IntKind.i64 xh, Value.int IntKind.i64 yl, Value.int IntKind.i64 xh, Value.int IntKind.i64 yh] ∧
 IntKind.i64.wrap (IntKind.i64.wrap (IntKind.i64.wrap (0 + 1) + 1) + 1) = IntKind.i64.wrap (IntKind.i64.wrap (IntKind.i64.wrap (0 + 1) + 1) + 1) ∧ yl = yl ∧ yh = yh ∧ xl = xl ∧ xh = xh ∧ Int.ofNat 0 = 0 ∧ Int.ofNat 0 = 0 ∧ xl = xl ∧ yl = yl ∧ xl = xl ∧ yh = yh ∧ xh = xh ∧ yl = yl ∧ xh = xh ∧ yh = yh ∧ xh = s.1 ∧ yh = s.2 ∧ xh = s.3 ∧ yh = s.4 ∧ True) ∧
 FoR fa fb fc fd (IntKind.i64.wrap (IntKind.i64.wrap (IntKind.i64.wrap (0 + 1) + 1) + 1)) s.1 s.2 s.3 s.4)
 (∃ (s_1 : Fo),
 (Int.ofNat 0 = 0 ∧
 Value.agg #[Value.int IntKind.i64 xl, Value.int IntKind.i64 yl, Value.int IntKind.i64 xl, Value.int IntKind.i64 yh, Value.int IntKind.i64 xh, Value.int IntKind.i64 yl, Value.int IntKind.i64 xh, Value.int IntKind.i64 yh] =
 Value.agg #[Value.int IntKind.i64 xl, Value.int IntKind.i64 yl, Value.int IntKind.i64 xl, Value.int IntKind.i64 yh, Value.int IntKind.i64 xh, Value.int IntKind.i64 yl, Value.int IntKind.i64 xh, Value.int IntKind.i64 yh] ∧
 IntKind.i64.wrap (IntKind.i64.wrap (IntKind.i64.wrap (0 + 1) + 1) + 1) = IntKind.i64.wrap (IntKind.i64.wrap (IntKind.i64.wrap (0 + 1) + 1) + 1) ∧ yl = yl ∧ yh = yh ∧ xl = xl ∧ xh = xh ∧ Int.ofNat 0 = 0 ∧ Int.ofNat 0 = 0 ∧ xl = xl ∧ yl = yl ∧ xl = xl ∧ yh = yh ∧ xh = xh ∧ yl = yl ∧ xh = xh ∧ yh = yh ∧ xh = s_1.1 ∧ yh = s_1.2 ∧ s.3 = s_1.3 ∧ s.4 = s_1.4 ∧ True) ∧
 FoR fa fb fc fd (IntKind.i64.wrap (IntKind.i64.wrap (IntKind.i64.wrap (0 + 1) + 1) + 1)) s_1.1 s_1.2 s_1.3 s_1.4))
 (BfOk s.3 s.4 xh yh ∧
 bcase (bf s.c s.d xh yh)
 (∃ (s_1 : Fo),
 (Int.ofNat 0 = 0 ∧
 Value.agg #[Value.int IntKind.i64 xl, Value.int IntKind.i64 yl, Value.int IntKind.i64 xl, Value.int IntKind.i64 yh, Value.int IntKind.i64 xh, Value.int IntKind.i64 yl, Value.int IntKind.i64 xh, Value.int IntKind.i64 yh] =
 Value.agg #[Value.int IntKind.i64 xl, Value.int IntKind.i64 yl, Value.int IntKind.i64 xl, Value.int IntKind.i64 yh, Value.int IntKind.i64 xh, Value.int IntKind.i64 yl, Value.int IntKind.i64 xh, Value.int IntKind.i64 yh] ∧
 IntKind.i64.wrap (IntKind.i64.wrap (IntKind.i64.wrap (0 + 1) + 1) + 1) = IntKind.i64.wrap (IntKind.i64.wrap (IntKind.i64.wrap (0 + 1) + 1) + 1) ∧ yl = yl ∧ yh = yh ∧ xl = xl ∧ xh = xh ∧ Int.ofNat 0 = 0 ∧ Int.ofNat 0 = 0 ∧ xl = xl ∧ yl = yl ∧ xl = xl ∧ yh = yh ∧ xh = xh ∧ yl = yl ∧ xh = xh ∧ yh = yh ∧ s.1 = s_1.1 ∧ s.2 = s_1.2 ∧ xh = s_1.3 ∧ yh = s_1.4 ∧ True) ∧
 FoR fa fb fc fd (IntKind.i64.wrap (IntKind.i64.wrap (IntKind.i64.wrap (0 + 1) + 1) + 1)) s_1.1 s_1.2 s_1.3 s_1.4)
 (∃ (s_1 : Fo),
 (Int.ofNat 0 = 0 ∧
 Value.agg #[Value.int IntKind.i64 xl, Value.int IntKind.i64 yl, Value.int IntKind.i64 xl, Value.int IntKind.i64 yh, Value.int IntKind.i64 xh, Value.int IntKind.i64 yl, Value.int IntKind.i64 xh, Value.int IntKind.i64 yh] =
 Value.agg #[Value.int IntKind.i64 xl, Value.int IntKind.i64 yl, Value.int IntKind.i64 xl, Value.int IntKind.i64 yh, Value.int IntKind.i64 xh, Value.int IntKind.i64 yl, Value.int IntKind.i64 xh, Value.int IntKind.i64 yh] ∧
 IntKind.i64.wrap (IntKind.i64.wrap (IntKind.i64.wrap (0 + 1) + 1) + 1) = IntKind.i64.wrap (IntKind.i64.wrap (IntKind.i64.wrap (0 + 1) + 1) + 1) ∧ yl = yl ∧ yh = yh ∧ xl = xl ∧ xh = xh ∧ Int.ofNat 0 = 0 ∧ Int.ofNat 0 = 0 ∧ xl = xl ∧ yl = yl ∧ xl = xl ∧ yh = yh ∧ xh = xh ∧ yl = yl ∧ xh = xh ∧ yh = yh ∧ s.1 = s_1.1 ∧ s.2 = s_1.2 ∧ s.3 = s_1.3 ∧ s.4 = s_1.4 ∧ True) ∧
 FoR fa fb fc fd (IntKind.i64.wrap (IntKind.i64.wrap (IntKind.i64.wrap (0 + 1) + 1) + 1)) s_1.1 s_1.2 s_1.3 s_1.4))) ∧
 BfOk xh yl s.1 s.2 ∧
 bcase (bf xh yl s.a s.b)
 (BfOk s.3 s.4 xh yl ∧
 bcase (bf s.c s.d xh yl)
 (∃ (s : Fo),
 (Int.ofNat 0 = 0 ∧
 Value.agg #[Value.int IntKind.i64 xl, Value.int IntKind.i64 yl, Value.int IntKind.i64 xl, Value.int IntKind.i64 yh, Value.int IntKind.i64 xh, Value.int IntKind.i64 yl, Value.int IntKind.i64 xh, Value.int IntKind.i64 yh] =
 Value.agg #[Value.int IntKind.i64 xl, Value.int IntKind.i64 yl, Value.int IntKind.i64 xl, Value.int IntKind.i64 yh, Value.int IntKind.i64 xh, Value.int IntKind.i64 yl, Value.int IntKind.i64 xh, Value.int IntKind.i64 yh] ∧
 IntKind.i64.wrap (IntKind.i64.wrap (0 + 1) + 1) = IntKind.i64.wrap (IntKind.i64.wrap (0 + 1) + 1) ∧ yl = yl ∧ yh = yh ∧ xl = xl ∧ xh = xh ∧ Int.ofNat 0 = 0 ∧ Int.ofNat 0 = 0 ∧ xl = xl ∧ yl = yl ∧ xl = xl ∧ yh = yh ∧ xh = xh ∧ yl = yl ∧ xh = xh ∧ yh = yh ∧ xh = s.1 ∧ yl = s.2 ∧ xh = s.3 ∧ yl = s.4 ∧ True) ∧
 FoR fa fb fc fd (IntKind.i64.wrap (IntKind.i64.wrap (0 + 1) + 1)) s.1 s.2 s.3 s.4)
 (∃ (s_1 : Fo),
 (Int.ofNat 0 = 0 ∧
 Value.agg #[Value.int IntKind.i64 xl, Value.int IntKind.i64 yl, Value.int IntKind.i64 xl, Value.int IntKind.i64 yh, Value.int IntKind.i64 xh, Value.int IntKind.i64 yl, Value.int IntKind.i64 xh, Value.int IntKind.i64 yh] =
 Value.agg #[Value.int IntKind.i64 xl, Value.int IntKind.i64 yl, Value.int IntKind.i64 xl, Value.int IntKind.i64 yh, Value.int IntKind.i64 xh, Value.int IntKind.i64 yl, Value.int IntKind.i64 xh, Value.int IntKind.i64 yh] ∧
 IntKind.i64.wrap (IntKind.i64.wrap (0 + 1) + 1) = IntKind.i64.wrap (IntKind.i64.wrap (0 + 1) + 1) ∧ yl = yl ∧ yh = yh ∧ xl = xl ∧ xh = xh ∧ Int.ofNat 0 = 0 ∧ Int.ofNat 0 = 0 ∧ xl = xl ∧ yl = yl ∧ xl = xl ∧ yh = yh ∧ xh = xh ∧ yl = yl ∧ xh = xh ∧ yh = yh ∧ xh = s_1.1 ∧ yl = s_1.2 ∧ s.3 = s_1.3 ∧ s.4 = s_1.4 ∧ True) ∧
 FoR fa fb fc fd (IntKind.i64.wrap (IntKind.i64.wrap (0 + 1) + 1)) s_1.1 s_1.2 s_1.3 s_1.4))
 (BfOk s.3 s.4 xh yl ∧
 bcase (bf s.c s.d xh yl)
 (∃ (s_1 : Fo),
 (Int.ofNat 0 = 0 ∧
 Value.agg #[Value.int IntKind.i64 xl, Value.int IntKind.i64 yl, Value.int IntKind.i64 xl, Value.int IntKind.i64 yh, Value.int IntKind.i64 xh, Value.int IntKind.i64 yl, Value.int IntKind.i64 xh, Value.int IntKind.i64 yh] =
 Value.agg #[Value.int IntKind.i64 xl, Value.int IntKind.i64 yl, Value.int IntKind.i64 xl, Value.int IntKind.i64 yh, Value.int IntKind.i64 xh, Value.int IntKind.i64 yl, Value.int IntKind.i64 xh, Value.int IntKind.i64 yh] ∧
 IntKind.i64.wrap (IntKind.i64.wrap (0 + 1) + 1) = IntKind.i64.wrap (IntKind.i64.wrap (0 + 1) + 1) ∧ yl = yl ∧ yh = yh ∧ xl = xl ∧ xh = xh ∧ Int.ofNat 0 = 0 ∧ Int.ofNat 0 = 0 ∧ xl = xl ∧ yl = yl ∧ xl = xl ∧ yh = yh ∧ xh = xh ∧ yl = yl ∧ xh = xh ∧ yh = yh ∧ s.1 = s_1.1 ∧ s.2 = s_1.2 ∧ xh = s_1.3 ∧ yl = s_1.4 ∧ True) ∧
 FoR fa fb fc fd (IntKind.i64.wrap (IntKind.i64.wrap (0 + 1) + 1)) s_1.1 s_1.2 s_1.3 s_1.4)
 (∃ (s_1 : Fo),
 (Int.ofNat 0 = 0 ∧
 Value.agg #[Value.int IntKind.i64 xl, Value.int IntKind.i64 yl, Value.int IntKind.i64 xl, Value.int IntKind.i64 yh, Value.int IntKind.i64 xh, Value.int IntKind.i64 yl, Value.int IntKind.i64 xh, Value.int IntKind.i64 yh] =
 Value.agg #[Value.int IntKind.i64 xl, Value.int IntKind.i64 yl, Value.int IntKind.i64 xl, Value.int IntKind.i64 yh, Value.int IntKind.i64 xh, Value.int IntKind.i64 yl, Value.int IntKind.i64 xh, Value.int IntKind.i64 yh] ∧
 IntKind.i64.wrap (IntKind.i64.wrap (0 + 1) + 1) = IntKind.i64.wrap (IntKind.i64.wrap (0 + 1) + 1) ∧ yl = yl ∧ yh = yh ∧ xl = xl ∧ xh = xh ∧ Int.ofNat 0 = 0 ∧ Int.ofNat 0 = 0 ∧ xl = xl ∧ yl = yl ∧ xl = xl ∧ yh = yh ∧ xh = xh ∧ yl = yl ∧ xh = xh ∧ yh = yh ∧ s.1 = s_1.1 ∧ s.2 = s_1.2 ∧ s.3 = s_1.3 ∧ s.4 = s_1.4 ∧ True) ∧
 FoR fa fb fc fd (IntKind.i64.wrap (IntKind.i64.wrap (0 + 1) + 1)) s_1.1 s_1.2 s_1.3 s_1.4))) ∧
 BfOk xl yh s.1 s.2 ∧
 bcase (bf xl yh s.a s.b)
 (BfOk s.3 s.4 xl yh ∧
 bcase (bf s.c s.d xl yh)
 (∃ (s : Fo),
 (Int.ofNat 0 = 0 ∧
 Value.agg #[Value.int IntKind.i64 xl, Value.int IntKind.i64 yl, Value.int IntKind.i64 xl, Value.int IntKind.i64 yh, Value.int IntKind.i64 xh, Value.int IntKind.i64 yl, Value.int IntKind.i64 xh, Value.int IntKind.i64 yh] =
 Value.agg #[Value.int IntKind.i64 xl, Value.int IntKind.i64 yl, Value.int IntKind.i64 xl, Value.int IntKind.i64 yh, Value.int IntKind.i64 xh, Value.int IntKind.i64 yl, Value.int IntKind.i64 xh, Value.int IntKind.i64 yh] ∧
 IntKind.i64.wrap (0 + 1) = IntKind.i64.wrap (0 + 1) ∧ yl = yl ∧ yh = yh ∧ xl = xl ∧ xh = xh ∧ Int.ofNat 0 = 0 ∧ Int.ofNat 0 = 0 ∧ xl = xl ∧ yl = yl ∧ xl = xl ∧ yh = yh ∧ xh = xh ∧ yl = yl ∧ xh = xh ∧ yh = yh ∧ xl = s.1 ∧ yh = s.2 ∧ xl = s.3 ∧ yh = s.4 ∧ True) ∧
 FoR fa fb fc fd (IntKind.i64.wrap (0 + 1)) s.1 s.2 s.3 s.4)
 (∃ (s_1 : Fo),
 (Int.ofNat 0 = 0 ∧
 Value.agg #[Value.int IntKind.i64 xl, Value.int IntKind.i64 yl, Value.int IntKind.i64 xl, Value.int IntKind.i64 yh, Value.int IntKind.i64 xh, Value.int IntKind.i64 yl, Value.int IntKind.i64 xh, Value.int IntKind.i64 yh] =
 Value.agg #[Value.int IntKind.i64 xl, Value.int IntKind.i64 yl, Value.int IntKind.i64 xl, Value.int IntKind.i64 yh, Value.int IntKind.i64 xh, Value.int IntKind.i64 yl, Value.int IntKind.i64 xh, Value.int IntKind.i64 yh] ∧
 IntKind.i64.wrap (0 + 1) = IntKind.i64.wrap (0 + 1) ∧ yl = yl ∧ yh = yh ∧ xl = xl ∧ xh = xh ∧ Int.ofNat 0 = 0 ∧ Int.ofNat 0 = 0 ∧ xl = xl ∧ yl = yl ∧ xl = xl ∧ yh = yh ∧ xh = xh ∧ yl = yl ∧ xh = xh ∧ yh = yh ∧ xl = s_1.1 ∧ yh = s_1.2 ∧ s.3 = s_1.3 ∧ s.4 = s_1.4 ∧ True) ∧
 FoR fa fb fc fd (IntKind.i64.wrap (0 + 1)) s_1.1 s_1.2 s_1.3 s_1.4))
 (BfOk s.3 s.4 xl yh ∧
 bcase (bf s.c s.d xl yh)
 (∃ (s_1 : Fo),
 (Int.ofNat 0 = 0 ∧
 Value.agg #[Value.int IntKind.i64 xl, Value.int IntKind.i64 yl, Value.int IntKind.i64 xl, Value.int IntKind.i64 yh, Value.int IntKind.i64 xh, Value.int IntKind.i64 yl, Value.int IntKind.i64 xh, Value.int IntKind.i64 yh] =
 Value.agg #[Value.int IntKind.i64 xl, Value.int IntKind.i64 yl, Value.int IntKind.i64 xl, Value.int IntKind.i64 yh, Value.int IntKind.i64 xh, Value.int IntKind.i64 yl, Value.int IntKind.i64 xh, Value.int IntKind.i64 yh] ∧
 IntKind.i64.wrap (0 + 1) = IntKind.i64.wrap (0 + 1) ∧ yl = yl ∧ yh = yh ∧ xl = xl ∧ xh = xh ∧ Int.ofNat 0 = 0 ∧ Int.ofNat 0 = 0 ∧ xl = xl ∧ yl = yl ∧ xl = xl ∧ yh = yh ∧ xh = xh ∧ yl = yl ∧ xh = xh ∧ yh = yh ∧ s.1 = s_1.1 ∧ s.2 = s_1.2 ∧ xl = s_1.3 ∧ yh = s_1.4 ∧ True) ∧
 FoR fa fb fc fd (IntKind.i64.wrap (0 + 1)) s_1.1 s_1.2 s_1.3 s_1.4)
 (∃ (s_1 : Fo),
 (Int.ofNat 0 = 0 ∧
 Value.agg #[Value.int IntKind.i64 xl, Value.int IntKind.i64 yl, Value.int IntKind.i64 xl, Value.int IntKind.i64 yh, Value.int IntKind.i64 xh, Value.int IntKind.i64 yl, Value.int IntKind.i64 xh, Value.int IntKind.i64 yh] =
 Value.agg #[Value.int IntKind.i64 xl, Value.int IntKind.i64 yl, Value.int IntKind.i64 xl, Value.int IntKind.i64 yh, Value.int IntKind.i64 xh, Value.int IntKind.i64 yl, Value.int IntKind.i64 xh, Value.int IntKind.i64 yh] ∧
 IntKind.i64.wrap (0 + 1) = IntKind.i64.wrap (0 + 1) ∧ yl = yl ∧ yh = yh ∧ xl = xl ∧ xh = xh ∧ Int.ofNat 0 = 0 ∧ Int.ofNat 0 = 0 ∧ xl = xl ∧ yl = yl ∧ xl = xl ∧ yh = yh ∧ xh = xh ∧ yl = yl ∧ xh = xh ∧ yh = yh ∧ s.1 = s_1.1 ∧ s.2 = s_1.2 ∧ s.3 = s_1.3 ∧ s.4 = s_1.4 ∧ True) ∧
 FoR fa fb fc fd (IntKind.i64.wrap (0 + 1)) s_1.1 s_1.2 s_1.3 s_1.4))) ∧
 BfOk xl yl xl yl ∧
 bcase (bf xl yl xl yl)
 (BfOk xl yl xl yl ∧
 bcase (bf xl yl xl yl)
 (∃ (s : Fo),
 (Int.ofNat 0 = 0 ∧
 Value.agg #[Value.int IntKind.i64 xl, Value.int IntKind.i64 yl, Value.int IntKind.i64 xl, Value.int IntKind.i64 yh, Value.int IntKind.i64 xh, Value.int IntKind.i64 yl, Value.int IntKind.i64 xh, Value.int IntKind.i64 yh] =
 Value.agg #[Value.int IntKind.i64 xl, Value.int IntKind.i64 yl, Value.int IntKind.i64 xl, Value.int IntKind.i64 yh, Value.int IntKind.i64 xh, Value.int IntKind.i64 yl, Value.int IntKind.i64 xh, Value.int IntKind.i64 yh] ∧
 Int.ofNat 0 = 0 ∧ yl = yl ∧ yh = yh ∧ xl = xl ∧ xh = xh ∧ Int.ofNat 0 = 0 ∧ Int.ofNat 0 = 0 ∧ xl = xl ∧ yl = yl ∧ xl = xl ∧ yh = yh ∧ xh = xh ∧ yl = yl ∧ xh = xh ∧ yh = yh ∧ xl = s.1 ∧ yl = s.2 ∧ xl = s.3 ∧ yl = s.4 ∧ True) ∧
 FoR fa fb fc fd 0 s.1 s.2 s.3 s.4)
 (∃ (s : Fo),
 (Int.ofNat 0 = 0 ∧
 Value.agg #[Value.int IntKind.i64 xl, Value.int IntKind.i64 yl, Value.int IntKind.i64 xl, Value.int IntKind.i64 yh, Value.int IntKind.i64 xh, Value.int IntKind.i64 yl, Value.int IntKind.i64 xh, Value.int IntKind.i64 yh] =
 Value.agg #[Value.int IntKind.i64 xl, Value.int IntKind.i64 yl, Value.int IntKind.i64 xl, Value.int IntKind.i64 yh, Value.int IntKind.i64 xh, Value.int IntKind.i64 yl, Value.int IntKind.i64 xh, Value.int IntKind.i64 yh] ∧
 Int.ofNat 0 = 0 ∧ yl = yl ∧ yh = yh ∧ xl = xl ∧ xh = xh ∧ Int.ofNat 0 = 0 ∧ Int.ofNat 0 = 0 ∧ xl = xl ∧ yl = yl ∧ xl = xl ∧ yh = yh ∧ xh = xh ∧ yl = yl ∧ xh = xh ∧ yh = yh ∧ xl = s.1 ∧ yl = s.2 ∧ xl = s.3 ∧ yl = s.4 ∧ True) ∧
 FoR fa fb fc fd 0 s.1 s.2 s.3 s.4))
 (BfOk xl yl xl yl ∧
 bcase (bf xl yl xl yl)
 (∃ (s : Fo),
 (Int.ofNat 0 = 0 ∧
 Value.agg #[Value.int IntKind.i64 xl, Value.int IntKind.i64 yl, Value.int IntKind.i64 xl, Value.int IntKind.i64 yh, Value.int IntKind.i64 xh, Value.int IntKind.i64 yl, Value.int IntKind.i64 xh, Value.int IntKind.i64 yh] =
 Value.agg #[Value.int IntKind.i64 xl, Value.int IntKind.i64 yl, Value.int IntKind.i64 xl, Value.int IntKind.i64 yh, Value.int IntKind.i64 xh, Value.int IntKind.i64 yl, Value.int IntKind.i64 xh, Value.int IntKind.i64 yh] ∧
 Int.ofNat 0 = 0 ∧ yl = yl ∧ yh = yh ∧ xl = xl ∧ xh = xh ∧ Int.ofNat 0 = 0 ∧ Int.ofNat 0 = 0 ∧ xl = xl ∧ yl = yl ∧ xl = xl ∧ yh = yh ∧ xh = xh ∧ yl = yl ∧ xh = xh ∧ yh = yh ∧ xl = s.1 ∧ yl = s.2 ∧ xl = s.3 ∧ yl = s.4 ∧ True) ∧
 FoR fa fb fc fd 0 s.1 s.2 s.3 s.4)
 (∃ (s : Fo),
 (Int.ofNat 0 = 0 ∧
 Value.agg #[Value.int IntKind.i64 xl, Value.int IntKind.i64 yl, Value.int IntKind.i64 xl, Value.int IntKind.i64 yh, Value.int IntKind.i64 xh, Value.int IntKind.i64 yl, Value.int IntKind.i64 xh, Value.int IntKind.i64 yh] =
 Value.agg #[Value.int IntKind.i64 xl, Value.int IntKind.i64 yl, Value.int IntKind.i64 xl, Value.int IntKind.i64 yh, Value.int IntKind.i64 xh, Value.int IntKind.i64 yl, Value.int IntKind.i64 xh, Value.int IntKind.i64 yh] ∧
 Int.ofNat 0 = 0 ∧ yl = yl ∧ yh = yh ∧ xl = xl ∧ xh = xh ∧ Int.ofNat 0 = 0 ∧ Int.ofNat 0 = 0 ∧ xl = xl ∧ yl = yl ∧ xl = xl ∧ yh = yh ∧ xh = xh ∧ yl = yl ∧ xh = xh ∧ yh = yh ∧ xl = s.1 ∧ yl = s.2 ∧ xl = s.3 ∧ yl = s.4 ∧ True) ∧
 FoR fa fb fc fd 0 s.1 s.2 s.3 s.4))))
 ((∀ (s : Fo),
 FoR fa fb fc fd 0 s.1 s.2 s.3 s.4 →
 (∀ (s : Fo),
 FoR fa fb fc fd (IntKind.i64.wrap (0 + 1)) s.1 s.2 s.3 s.4 →
 (∀ (s : Fo),
 FoR fa fb fc fd (IntKind.i64.wrap (IntKind.i64.wrap (0 + 1) + 1)) s.1 s.2 s.3 s.4 →
 (∀ (s : Fo),
 FoR fa fb fc fd (IntKind.i64.wrap (IntKind.i64.wrap (IntKind.i64.wrap (0 + 1) + 1) + 1)) s.1 s.2 s.3 s.4 →
 PlOk s.1 s.2 ∧
 PlOk s.3 s.4 ∧
 bcase (decide (ap s.c s.d < ap s.a s.b))
 (bcase (!ex s.c s.d) (K (Value.tuple #[Value.agg #[Value.int IntKind.i64 (ap s.a s.b), Value.int IntKind.i64 (IntKind.i64.wrap (IntKind.i64.wrap (ap s.c s.d + 21600000) + 1))], Value.int IntKind.i64 0])) (K (Value.tuple #[Value.agg #[Value.int IntKind.i64 (ap s.a s.b), Value.int IntKind.i64 (IntKind.i64.wrap (ap s.c s.d + 21600000))], Value.int IntKind.i64 0])))
 (bcase (!ex s.c s.d) (K (Value.tuple #[Value.agg #[Value.int IntKind.i64 (ap s.a s.b), Value.int IntKind.i64 (IntKind.i64.wrap (ap s.c s.d + 1))], Value.int IntKind.i64 0])) (K (Value.tuple #[Value.agg #[Value.int IntKind.i64 (ap s.a s.b), Value.int IntKind.i64 (ap s.c s.d)], Value.int IntKind.i64 0])))) ∧
 BfOk xh yh s.1 s.2 ∧
 bcase (bf xh yh s.a s.b)
 (BfOk s.3 s.4 xh yh ∧
 bcase (bf s.c s.d xh yh)
 (∃ (s : Fo),
 (Int.ofNat 0 = 0 ∧
 Value.agg #[Value.int IntKind.i64 xl, Value.int IntKind.i64 yl, Value.int IntKind.i64 xl, Value.int IntKind.i64 yh, Value.int IntKind.i64 xh, Value.int IntKind.i64 yl, Value.int IntKind.i64 xh, Value.int IntKind.i64 yh] =
 Value.agg #[Value.int IntKind.i64 xl, Value.int IntKind.i64 yl, Value.int IntKind.i64 xl, Value.int IntKind.i64 yh, Value.int IntKind.i64 xh, Value.int IntKind.i64 yl, Value.int IntKind.i64 xh, Value.int IntKind.i64 yh] ∧
 IntKind.i64.wrap (IntKind.i64.wrap (IntKind.i64.wrap (0 + 1) + 1) + 1) = IntKind.i64.wrap (IntKind.i64.wrap (IntKind.i64.wrap (0 + 1) + 1) + 1) ∧ yl = yl ∧ yh = yh ∧ xl = xl ∧ xh = xh ∧ Int.ofNat 0 = 0 ∧ Int.ofNat 0 = 0 ∧ xl = xl ∧ yl = yl ∧ xl = xl ∧ yh = yh ∧ xh = xh ∧ yl = yl ∧ xh = xh ∧ yh = yh ∧ xh = s.1 ∧ yh = s.2 ∧ xh = s.3 ∧ yh = s.4 ∧ True) ∧
 FoR fa fb fc fd (IntKind.i64.wrap (IntKind.i64.wrap (IntKind.i64.wrap (0 + 1) + 1) + 1)) s.1 s.2 s.3 s.4)
 (∃ (s_1 : Fo),
 (Int.ofNat 0 = 0 ∧
 Value.agg #[Value.int IntKind.i64 xl, Value.int IntKind.i64 yl, Value.int IntKind.i64 xl, Value.int IntKind.i64 yh, Value.int IntKind.i64 xh, Value.int IntKind.i64 yl, Value.int IntKind.i64 xh, Value.int IntKind.i64 yh] =
 Value.agg #[Value.int IntKind.i64 xl, Value.int IntKind.i64 yl, Value.int IntKind.i64 xl, Value.int IntKind.i64 yh, Value.int IntKind.i64 xh, Value.int IntKind.i64 yl, Value.int IntKind.i64 xh, Value.int IntKind.i64 yh] ∧
 IntKind.i64.wrap (IntKind.i64.wrap (IntKind.i64.wrap (0 + 1) + 1) + 1) = IntKind.i64.wrap (IntKind.i64.wrap (IntKind.i64.wrap (0 + 1) + 1) + 1) ∧ yl = yl ∧ yh = yh ∧ xl = xl ∧ xh = xh ∧ Int.ofNat 0 = 0 ∧ Int.ofNat 0 = 0 ∧ xl = xl ∧ yl = yl ∧ xl = xl ∧ yh = yh ∧ xh = xh ∧ yl = yl ∧ xh = xh ∧ yh = yh ∧ xh = s_1.1 ∧ yh = s_1.2 ∧ s.3 = s_1.3 ∧ s.4 = s_1.4 ∧ True) ∧
 FoR fa fb fc fd (IntKind.i64.wrap (IntKind.i64.wrap (IntKind.i64.wrap (0 + 1) + 1) + 1)) s_1.1 s_1.2 s_1.3 s_1.4))
 (BfOk s.3 s.4 xh yh ∧
 bcase (bf s.c s.d xh yh)
 (∃ (s_1 : Fo),
 (Int.ofNat 0 = 0 ∧
 Value.agg #[Value.int IntKind.i64 xl, Value.int IntKind.i64 yl, Value.int IntKind.i64 xl, Value.int IntKind.i64 yh, Value.int IntKind.i64 xh, Value.int IntKind.i64 yl, Value.int IntKind.i64 xh, Value.int IntKind.i64 yh] =
 Value.agg #[Value.int IntKind.i64 xl, Value.int IntKind.i64 yl, Value.int IntKind.i64 xl, Value.int IntKind.i64 yh, Value.int IntKind.i64 xh, Value.int IntKind.i64 yl, Value.int IntKind.i64 xh, Value.int IntKind.i64 yh] ∧
 IntKind.i64.wrap (IntKind.i64.wrap (IntKind.i64.wrap (0 + 1) + 1) + 1) = IntKind.i64.wrap (IntKind.i64.wrap (IntKind.i64.wrap (0 + 1) + 1) + 1) ∧ yl = yl ∧ yh = yh ∧ xl = xl ∧ xh = xh ∧ Int.ofNat 0 = 0 ∧ Int.ofNat 0 = 0 ∧ xl = xl ∧ yl = yl ∧ xl = xl ∧ yh = yh ∧ xh = xh ∧ yl = yl ∧ xh = xh ∧ yh = yh ∧ s.1 = s_1.1 ∧ s.2 = s_1.2 ∧ xh = s_1.3 ∧ yh = s_1.4 ∧ True) ∧
 FoR fa fb fc fd (IntKind.i64.wrap (IntKind.i64.wrap (IntKind.i64.wrap (0 + 1) + 1) + 1)) s_1.1 s_1.2 s_1.3 s_1.4)
 (∃ (s_1 : Fo),
 (Int.ofNat 0 = 0 ∧
 Value.agg #[Value.int IntKind.i64 xl, Value.int IntKind.i64 yl, Value.int IntKind.i64 xl, Value.int IntKind.i64 yh, Value.int IntKind.i64 xh, Value.int IntKind.i64 yl, Value.int IntKind.i64 xh, Value.int IntKind.i64 yh] =
 Value.agg #[Value.int IntKind.i64 xl, Value.int IntKind.i64 yl, Value.int IntKind.i64 xl, Value.int IntKind.i64 yh, Value.int IntKind.i64 xh, Value.int IntKind.i64 yl, Value.int IntKind.i64 xh, Value.int IntKind.i64 yh] ∧
 IntKind.i64.wrap (IntKind.i64.wrap (IntKind.i64.wrap (0 + 1) + 1) + 1) = IntKind.i64.wrap (IntKind.i64.wrap (IntKind.i64.wrap (0 + 1) + 1) + 1) ∧ yl = yl ∧ yh = yh ∧ xl = xl ∧ xh = xh ∧ Int.ofNat 0 = 0 ∧ Int.ofNat 0 = 0 ∧ xl = xl ∧ yl = yl ∧ xl = xl ∧ yh = yh ∧ xh = xh ∧ yl = yl ∧ xh = xh ∧ yh = yh ∧ s.1 = s_1.1 ∧ s.2 = s_1.2 ∧ s.3 = s_1.3 ∧ s.4 = s_1.4 ∧ True) ∧
 FoR fa fb fc fd (IntKind.i64.wrap (IntKind.i64.wrap (IntKind.i64.wrap (0 + 1) + 1) + 1)) s_1.1 s_1.2 s_1.3 s_1.4))) ∧
 BfOk xh yl s.1 s.2 ∧
 bcase (bf xh yl s.a s.b)
 (BfOk s.3 s.4 xh yl ∧
 bcase (bf s.c s.d xh yl)
 (∃ (s : Fo),
 (Int.ofNat 0 = 0 ∧
 Value.agg #[Value.int IntKind.i64 xl, Value.int IntKind.i64 yl, Value.int IntKind.i64 xl, Value.int IntKind.i64 yh, Value.int IntKind.i64 xh, Value.int IntKind.i64 yl, Value.int IntKind.i64 xh, Value.int IntKind.i64 yh] =
 Value.agg #[Value.int IntKind.i64 xl, Value.int IntKind.i64 yl, Value.int IntKind.i64 xl, Value.int IntKind.i64 yh, Value.int IntKind.i64 xh, Value.int IntKind.i64 yl, Value.int IntKind.i64 xh, Value.int IntKind.i64 yh] ∧
 IntKind.i64.wrap (IntKind.i64.wrap (0 + 1) + 1) = IntKind.i64.wrap (IntKind.i64.wrap (0 + 1) + 1) ∧ yl = yl ∧ yh = yh ∧ xl = xl ∧ xh = xh ∧ Int.ofNat 0 = 0 ∧ Int.ofNat 0 = 0 ∧ xl = xl ∧ yl = yl ∧ xl = xl ∧ yh = yh ∧ xh = xh ∧ yl = yl ∧ xh = xh ∧ yh = yh ∧ xh = s.1 ∧ yl = s.2 ∧ xh = s.3 ∧ yl = s.4 ∧ True) ∧
 FoR fa fb fc fd (IntKind.i64.wrap (IntKind.i64.wrap (0 + 1) + 1)) s.1 s.2 s.3 s.4)
 (∃ (s_1 : Fo),
 (Int.ofNat 0 = 0 ∧
 Value.agg #[Value.int IntKind.i64 xl, Value.int IntKind.i64 yl, Value.int IntKind.i64 xl, Value.int IntKind.i64 yh, Value.int IntKind.i64 xh, Value.int IntKind.i64 yl, Value.int IntKind.i64 xh, Value.int IntKind.i64 yh] =
 Value.agg #[Value.int IntKind.i64 xl, Value.int IntKind.i64 yl, Value.int IntKind.i64 xl, Value.int IntKind.i64 yh, Value.int IntKind.i64 xh, Value.int IntKind.i64 yl, Value.int IntKind.i64 xh, Value.int IntKind.i64 yh] ∧
 IntKind.i64.wrap (IntKind.i64.wrap (0 + 1) + 1) = IntKind.i64.wrap (IntKind.i64.wrap (0 + 1) + 1) ∧ yl = yl ∧ yh = yh ∧ xl = xl ∧ xh = xh ∧ Int.ofNat 0 = 0 ∧ Int.ofNat 0 = 0 ∧ xl = xl ∧ yl = yl ∧ xl = xl ∧ yh = yh ∧ xh = xh ∧ yl = yl ∧ xh = xh ∧ yh = yh ∧ xh = s_1.1 ∧ yl = s_1.2 ∧ s.3 = s_1.3 ∧ s.4 = s_1.4 ∧ True) ∧
 FoR fa fb fc fd (IntKind.i64.wrap (IntKind.i64.wrap (0 + 1) + 1)) s_1.1 s_1.2 s_1.3 s_1.4))
 (BfOk s.3 s.4 xh yl ∧
 bcase (bf s.c s.d xh yl)
 (∃ (s_1 : Fo),
 (Int.ofNat 0 = 0 ∧
 Value.agg #[Value.int IntKind.i64 xl, Value.int IntKind.i64 yl, Value.int IntKind.i64 xl, Value.int IntKind.i64 yh, Value.int IntKind.i64 xh, Value.int IntKind.i64 yl, Value.int IntKind.i64 xh, Value.int IntKind.i64 yh] =
 Value.agg #[Value.int IntKind.i64 xl, Value.int IntKind.i64 yl, Value.int IntKind.i64 xl, Value.int IntKind.i64 yh, Value.int IntKind.i64 xh, Value.int IntKind.i64 yl, Value.int IntKind.i64 xh, Value.int IntKind.i64 yh] ∧
 IntKind.i64.wrap (IntKind.i64.wrap (0 + 1) + 1) = IntKind.i64.wrap (IntKind.i64.wrap (0 + 1) + 1) ∧ yl = yl ∧ yh = yh ∧ xl = xl ∧ xh = xh ∧ Int.ofNat 0 = 0 ∧ Int.ofNat 0 = 0 ∧ xl = xl ∧ yl = yl ∧ xl = xl ∧ yh = yh ∧ xh = xh ∧ yl = yl ∧ xh = xh ∧ yh = yh ∧ s.1 = s_1.1 ∧ s.2 = s_1.2 ∧ xh = s_1.3 ∧ yl = s_1.4 ∧ True) ∧
 FoR fa fb fc fd (IntKind.i64.wrap (IntKind.i64.wrap (0 + 1) + 1)) s_1.1 s_1.2 s_1.3 s_1.4)
 (∃ (s_1 : Fo),
 (Int.ofNat 0 = 0 ∧
 Value.agg #[Value.int IntKind.i64 xl, Value.int IntKind.i64 yl, Value.int IntKind.i64 xl, Value.int IntKind.i64 yh, Value.int IntKind.i64 xh, Value.int IntKind.i64 yl, Value.int IntKind.i64 xh, Value.int IntKind.i64 yh] =
 Value.agg #[Value.int IntKind.i64 xl, Value.int IntKind.i64 yl, Value.int IntKind.i64 xl, Value.int IntKind.i64 yh, Value.int IntKind.i64 xh, Value.int IntKind.i64 yl, Value.int IntKind.i64 xh, Value.int IntKind.i64 yh] ∧
 IntKind.i64.wrap (IntKind.i64.wrap (0 + 1) + 1) = IntKind.i64.wrap (IntKind.i64.wrap (0 + 1) + 1) ∧ yl = yl ∧ yh = yh ∧ xl = xl ∧ xh = xh ∧ Int.ofNat 0 = 0 ∧ Int.ofNat 0 = 0 ∧ xl = xl ∧ yl = yl ∧ xl = xl ∧ yh = yh ∧ xh = xh ∧ yl = yl ∧ xh = xh ∧ yh = yh ∧ s.1 = s_1.1 ∧ s.2 = s_1.2 ∧ s.3 = s_1.3 ∧ s.4 = s_1.4 ∧ True) ∧
 FoR fa fb fc fd (IntKind.i64.wrap (IntKind.i64.wrap (0 + 1) + 1)) s_1.1 s_1.2 s_1.3 s_1.4))) ∧
 BfOk xl yh s.1 s.2 ∧
 bcase (bf xl yh s.a s.b)
 (BfOk s.3 s.4 xl yh ∧
 bcase (bf s.c s.d xl yh)
 (∃ (s : Fo),
 (Int.ofNat 0 = 0 ∧
 Value.agg #[Value.int IntKind.i64 xl, Value.int IntKind.i64 yl, Value.int IntKind.i64 xl, Value.int IntKind.i64 yh, Value.int IntKind.i64 xh, Value.int IntKind.i64 yl, Value.int IntKind.i64 xh, Value.int IntKind.i64 yh] =
 Value.agg #[Value.int IntKind.i64 xl, Value.int IntKind.i64 yl, Value.int IntKind.i64 xl, Value.int IntKind.i64 yh, Value.int IntKind.i64 xh, Value.int IntKind.i64 yl, Value.int IntKind.i64 xh, Value.int IntKind.i64 yh] ∧
 IntKind.i64.wrap (0 + 1) = IntKind.i64.wrap (0 + 1) ∧ yl = yl ∧ yh = yh ∧ xl = xl ∧ xh = xh ∧ Int.ofNat 0 = 0 ∧ Int.ofNat 0 = 0 ∧ xl = xl ∧ yl = yl ∧ xl = xl ∧ yh = yh ∧ xh = xh ∧ yl = yl ∧ xh = xh ∧ yh = yh ∧ xl = s.1 ∧ yh = s.2 ∧ xl = s.3 ∧ yh = s.4 ∧ True) ∧
 FoR fa fb fc fd (IntKind.i64.wrap (0 + 1)) s.1 s.2 s.3 s.4)
 (∃ (s_1 : Fo),
 (Int.ofNat 0 = 0 ∧
 Value.agg #[Value.int IntKind.i64 xl, Value.int IntKind.i64 yl, Value.int IntKind.i64 xl, Value.int IntKind.i64 yh, Value.int IntKind.i64 xh, Value.int IntKind.i64 yl, Value.int IntKind.i64 xh, Value.int IntKind.i64 yh] =
 Value.agg #[Value.int IntKind.i64 xl, Value.int IntKind.i64 yl, Value.int IntKind.i64 xl, Value.int IntKind.i64 yh, Value.int IntKind.i64 xh, Value.int IntKind.i64 yl, Value.int IntKind.i64 xh, Value.int IntKind.i64 yh] ∧
 IntKind.i64.wrap (0 + 1) = IntKind.i64.wrap (0 + 1) ∧ yl = yl ∧ yh = yh ∧ xl = xl ∧ xh = xh ∧ Int.ofNat 0 = 0 ∧ Int.ofNat 0 = 0 ∧ xl = xl ∧ yl = yl ∧ xl = xl ∧ yh = yh ∧ xh = xh ∧ yl = yl ∧ xh = xh ∧ yh = yh ∧ xl = s_1.1 ∧ yh = s_1.2 ∧ s.3 = s_1.3 ∧ s.4 = s_1.4 ∧ True) ∧
 FoR fa fb fc fd (IntKind.i64.wrap (0 + 1)) s_1.1 s_1.2 s_1.3 s_1.4))
 (BfOk s.3 s.4 xl yh ∧
 bcase (bf s.c s.d xl yh)
 (∃ (s_1 : Fo),
 (Int.ofNat 0 = 0 ∧
 Value.agg #[Value.int IntKind.i64 xl, Value.int IntKind.i64 yl, Value.int IntKind.i64 xl, Value.int IntKind.i64 yh, Value.int IntKind.i64 xh, Value.int IntKind.i64 yl, Value.int IntKind.i64 xh, Value.int IntKind.i64 yh] =
 Value.agg #[Value.int IntKind.i64 xl, Value.int IntKind.i64 yl, Value.int IntKind.i64 xl, Value.int IntKind.i64 yh, Value.int IntKind.i64 xh, Value.int IntKind.i64 yl, Value.int IntKind.i64 xh, Value.int IntKind.i64 yh] ∧
 IntKind.i64.wrap (0 + 1) = IntKind.i64.wrap (0 + 1) ∧ yl = yl ∧ yh = yh ∧ xl = xl ∧ xh = xh ∧ Int.ofNat 0 = 0 ∧ Int.ofNat 0 = 0 ∧ xl = xl ∧ yl = yl ∧ xl = xl ∧ yh = yh ∧ xh = xh ∧ yl = yl ∧ xh = xh ∧ yh = yh ∧ s.1 = s_1.1 ∧ s.2 = s_1.2 ∧ xl = s_1.3 ∧ yh = s_1.4 ∧ True) ∧
 FoR fa fb fc fd (IntKind.i64.wrap (0 + 1)) s_1.1 s_1.2 s_1.3 s_1.4)
 (∃ (s_1 : Fo),
 (Int.ofNat 0 = 0 ∧
 Value.agg #[Value.int IntKind.i64 xl, Value.int IntKind.i64 yl, Value.int IntKind.i64 xl, Value.int IntKind.i64 yh, Value.int IntKind.i64 xh, Value.int IntKind.i64 yl, Value.int IntKind.i64 xh, Value.int IntKind.i64 yh] =
 Value.agg #[Value.int IntKind.i64 xl, Value.int IntKind.i64 yl, Value.int IntKind.i64 xl, Value.int IntKind.i64 yh, Value.int IntKind.i64 xh, Value.int IntKind.i64 yl, Value.int IntKind.i64 xh, Value.int IntKind.i64 yh] ∧
 IntKind.i64.wrap (0 + 1) = IntKind.i64.wrap (0 + 1) ∧ yl = yl ∧ yh = yh ∧ xl = xl ∧ xh = xh ∧ Int.ofNat 0 = 0 ∧ Int.ofNat 0 = 0 ∧ xl = xl ∧ yl = yl ∧ xl = xl ∧ yh = yh ∧ xh = xh ∧ yl = yl ∧ xh = xh ∧ yh = yh ∧ s.1 = s_1.1 ∧ s.2 = s_1.2 ∧ s.3 = s_1.3 ∧ s.4 = s_1.4 ∧ True) ∧
 FoR fa fb fc fd (IntKind.i64.wrap (0 + 1)) s_1.1 s_1.2 s_1.3 s_1.4))) ∧
 BfOk xl yl xl yl ∧
 bcase (bf xl yl xl yl)
 (BfOk xl yl xl yl ∧
 bcase (bf xl yl xl yl)
 (∃ (s : Fo),
 (Int.ofNat 0 = 0 ∧
 Value.agg #[Value.int IntKind.i64 xl, Value.int IntKind.i64 yl, Value.int IntKind.i64 xl, Value.int IntKind.i64 yh, Value.int IntKind.i64 xh, Value.int IntKind.i64 yl, Value.int IntKind.i64 xh, Value.int IntKind.i64 yh] =
 Value.agg #[Value.int IntKind.i64 xl, Value.int IntKind.i64 yl, Value.int IntKind.i64 xl, Value.int IntKind.i64 yh, Value.int IntKind.i64 xh, Value.int IntKind.i64 yl, Value.int IntKind.i64 xh, Value.int IntKind.i64 yh] ∧
 Int.ofNat 0 = 0 ∧ yl = yl ∧ yh = yh ∧ xl = xl ∧ xh = xh ∧ Int.ofNat 0 = 0 ∧ Int.ofNat 0 = 0 ∧ xl = xl ∧ yl = yl ∧ xl = xl ∧ yh = yh ∧ xh = xh ∧ yl = yl ∧ xh = xh ∧ yh = yh ∧ xl = s.1 ∧ yl = s.2 ∧ xl = s.3 ∧ yl = s.4 ∧ True) ∧
 FoR fa fb fc fd 0 s.1 s.2 s.3 s.4)
 (∃ (s : Fo),
 (Int.ofNat 0 = 0 ∧
 Value.agg #[Value.int IntKind.i64 xl, Value.int IntKind.i64 yl, Value.int IntKind.i64 xl, Value.int IntKind.i64 yh, Value.int IntKind.i64 xh, Value.int IntKind.i64 yl, Value.int IntKind.i64 xh, Value.int IntKind.i64 yh] =
 Value.agg #[Value.int IntKind.i64 xl, Value.int IntKind.i64 yl, Value.int IntKind.i64 xl, Value.int IntKind.i64 yh, Value.int IntKind.i64 xh, Value.int IntKind.i64 yl, Value.int IntKind.i64 xh, Value.int IntKind.i64 yh] ∧
 Int.ofNat 0 = 0 ∧ yl = yl ∧ yh = yh ∧ xl = xl ∧ xh = xh ∧ Int.ofNat 0 = 0 ∧ Int.ofNat 0 = 0 ∧ xl = xl ∧ yl = yl ∧ xl = xl ∧ yh = yh ∧ xh = xh ∧ yl = yl ∧ xh = xh ∧ yh = yh ∧ xl = s.1 ∧ yl = s.2 ∧ xl = s.3 ∧ yl = s.4 ∧ True) ∧
 FoR fa fb fc fd 0 s.1 s.2 s.3 s.4))
 (BfOk xl yl xl yl ∧
 bcase (bf xl yl xl yl)
 (∃ (s : Fo),
 (Int.ofNat 0 = 0 ∧
 Value.agg #[Value.int IntKind.i64 xl, Value.int IntKind.i64 yl, Value.int IntKind.i64 xl, Value.int IntKind.i64 yh, Value.int IntKind.i64 xh, Value.int IntKind.i64 yl, Value.int IntKind.i64 xh, Value.int IntKind.i64 yh] =
 Value.agg #[Value.int IntKind.i64 xl, Value.int IntKind.i64 yl, Value.int IntKind.i64 xl, Value.int IntKind.i64 yh, Value.int IntKind.i64 xh, Value.int IntKind.i64 yl, Value.int IntKind.i64 xh, Value.int IntKind.i64 yh] ∧
 Int.ofNat 0 = 0 ∧ yl = yl ∧ yh = yh ∧ xl = xl ∧ xh = xh ∧ Int.ofNat 0 = 0 ∧ Int.ofNat 0 = 0 ∧ xl = xl ∧ yl = yl ∧ xl = xl ∧ yh = yh ∧ xh = xh ∧ yl = yl ∧ xh = xh ∧ yh = yh ∧ xl = s.1 ∧ yl = s.2 ∧ xl = s.3 ∧ yl = s.4 ∧ True) ∧
 FoR fa fb fc fd 0 s.1 s.2 s.3 s.4)
 (∃ (s : Fo),
 (Int.ofNat 0 = 0 ∧
 Value.agg #[Value.int IntKind.i64 xl, Value.int IntKind.i64 yl, Value.int IntKind.i64 xl, Value.int IntKind.i64 yh, Value.int IntKind.i64 xh, Value.int IntKind.i64 yl, Value.int IntKind.i64 xh, Value.int IntKind.i64 yh] =
 Value.agg #[Value.int IntKind.i64 xl, Value.int IntKind.i64 yl, Value.int IntKind.i64 xl, Value.int IntKind.i64 yh, Value.int IntKind.i64 xh, Value.int IntKind.i64 yl, Value.int IntKind.i64 xh, Value.int IntKind.i64 yh] ∧
 Int.ofNat 0 = 0 ∧ yl = yl ∧ yh = yh ∧ xl = xl ∧ xh = xh ∧ Int.ofNat 0 = 0 ∧ Int.ofNat 0 = 0 ∧ xl = xl ∧ yl = yl ∧ xl = xl ∧ yh = yh ∧ xh = xh ∧ yl = yl ∧ xh = xh ∧ yh = yh ∧ xl = s.1 ∧ yl = s.2 ∧ xl = s.3 ∧ yl = s.4 ∧ True) ∧
 FoR fa fb fc fd 0 s.1 s.2 s.3 s.4))))
 ((∀ (s : Fo),
 FoR fa fb fc fd 0 s.1 s.2 s.3 s.4 →
 (∀ (s : Fo),
 FoR fa fb fc fd (IntKind.i64.wrap (0 + 1)) s.1 s.2 s.3 s.4 →
 (∀ (s : Fo),
 FoR fa fb fc fd (IntKind.i64.wrap (IntKind.i64.wrap (0 + 1) + 1)) s.1 s.2 s.3 s.4 →
 (∀ (s : Fo),
 FoR fa fb fc fd (IntKind.i64.wrap (IntKind.i64.wrap (IntKind.i64.wrap (0 + 1) + 1) + 1)) s.1 s.2 s.3 s.4 →
 PlOk s.1 s.2 ∧
 PlOk s.3 s.4 ∧
 bcase (decide (ap s.c s.d < ap s.a s.b))
 (bcase (!ex s.c s.d) (K (Value.tuple #[Value.agg #[Value.int IntKind.i64 (ap s.a s.b), Value.int IntKind.i64 (IntKind.i64.wrap (IntKind.i64.wrap (ap s.c s.d + 21600000) + 1))], Value.int IntKind.i64 0])) (K (Value.tuple #[Value.agg #[Value.int IntKind.i64 (ap s.a s.b), Value.int IntKind.i64 (IntKind.i64.wrap (ap s.c s.d + 21600000))], Value.int IntKind.i64 0])))
 (bcase (!ex s.c s.d) (K (Value.tuple #[Value.agg #[Value.int IntKind.i64 (ap s.a s.b), Value.int IntKind.i64 (IntKind.i64.wrap (ap s.c s.d + 1))], Value.int IntKind.i64 0])) (K (Value.tuple #[Value.agg #[Value.int IntKind.i64 (ap s.a s.b), Value.int IntKind.i64 (ap s.c s.d)], Value.int IntKind.i64 0])))) ∧
 BfOk xh yh s.1 s.2 ∧
 bcase (bf xh yh s.a s.b)
 (BfOk s.3 s.4 xh yh ∧
 bcase (bf s.c s.d xh yh)
 (∃ (s : Fo),
 (Int.ofNat 0 = 0 ∧
 Value.agg #[Value.int IntKind.i64 xl, Value.int IntKind.i64 yl, Value.int IntKind.i64 xl, Value.int IntKind.i64 yh, Value.int IntKind.i64 xh, Value.int IntKind.i64 yl, Value.int IntKind.i64 xh, Value.int IntKind.i64 yh] =
 Value.agg #[Value.int IntKind.i64 xl, Value.int IntKind.i64 yl, Value.int IntKind.i64 xl, Value.int IntKind.i64 yh, Value.int IntKind.i64 xh, Value.int IntKind.i64 yl, Value.int IntKind.i64 xh, Value.int IntKind.i64 yh] ∧
 IntKind.i64.wrap (IntKind.i64.wrap (IntKind.i64.wrap (0 + 1) + 1) + 1) = IntKind.i64.wrap (IntKind.i64.wrap (IntKind.i64.wrap (0 + 1) + 1) + 1) ∧ yl = yl ∧ yh = yh ∧ xl = xl ∧ xh = xh ∧ Int.ofNat 0 = 0 ∧ Int.ofNat 0 = 0 ∧ xl = xl ∧ yl = yl ∧ xl = xl ∧ yh = yh ∧ xh = xh ∧ yl = yl ∧ xh = xh ∧ yh = yh ∧ xh = s.1 ∧ yh = s.2 ∧ xh = s.3 ∧ yh = s.4 ∧ True) ∧
 FoR fa fb fc fd (IntKind.i64.wrap (IntKind.i64.wrap (IntKind.i64.wrap (0 + 1) + 1) + 1)) s.1 s.2 s.3 s.4)
 (∃ (s_1 : Fo),
 (Int.ofNat 0 = 0 ∧
 Value.agg #[Value.int IntKind.i64 xl, Value.int IntKind.i64 yl, Value.int IntKind.i64 xl, Value.int IntKind.i64 yh, Value.int IntKind.i64 xh, Value.int IntKind.i64 yl, Value.int IntKind.i64 xh, Value.int IntKind.i64 yh] =
 Value.agg #[Value.int IntKind.i64 xl, Value.int IntKind.i64 yl, Value.int IntKind.i64 xl, Value.int IntKind.i64 yh, Value.int IntKind.i64 xh, Value.int IntKind.i64 yl, Value.int IntKind.i64 xh, Value.int IntKind.i64 yh] ∧
 IntKind.i64.wrap (IntKind.i64.wrap (IntKind.i64.wrap (0 + 1) + 1) + 1) = IntKind.i64.wrap (IntKind.i64.wrap (IntKind.i64.wrap (0 + 1) + 1) + 1) ∧ yl = yl ∧ yh = yh ∧ xl = xl ∧ xh = xh ∧ Int.ofNat 0 = 0 ∧ Int.ofNat 0 = 0 ∧ xl = xl ∧ yl = yl ∧ xl = xl ∧ yh = yh ∧ xh = xh ∧ yl = yl ∧ xh = xh ∧ yh = yh ∧ xh = s_1.1 ∧ yh = s_1.2 ∧ s.3 = s_1.3 ∧ s.4 = s_1.4 ∧ True) ∧
 FoR fa fb fc fd (IntKind.i64.wrap (IntKind.i64.wrap (IntKind.i64.wrap (0 + 1) + 1) + 1)) s_1.1 s_1.2 s_1.3 s_1.4))
 (BfOk s.3 s.4 xh yh ∧
 bcase (bf s.c s.d xh yh)
 (∃ (s_1 : Fo),
 (Int.ofNat 0 = 0 ∧
 Value.agg #[Value.int IntKind.i64 xl, Value.int IntKind.i64 yl, Value.int IntKind.i64 xl, Value.int IntKind.i64 yh, Value.int IntKind.i64 xh, Value.int IntKind.i64 yl, Value.int IntKind.i64 xh, Value.int IntKind.i64 yh] =
 Value.agg #[Value.int IntKind.i64 xl, Value.int IntKind.i64 yl, Value.int IntKind.i64 xl, Value.int IntKind.i64 yh, Value.int IntKind.i64 xh, Value.int IntKind.i64 yl, Value.int IntKind.i64 xh, Value.int IntKind.i64 yh] ∧
 IntKind.i64.wrap (IntKind.i64.wrap (IntKind.i64.wrap (0 + 1) + 1) + 1) = IntKind.i64.wrap (IntKind.i64.wrap (IntKind.i64.wrap (0 + 1) + 1) + 1) ∧ yl = yl ∧ yh = yh ∧ xl = xl ∧ xh = xh ∧ Int.ofNat 0 = 0 ∧ Int.ofNat 0 = 0 ∧ xl = xl ∧ yl = yl ∧ xl = xl ∧ yh = yh ∧ xh = xh ∧ yl = yl ∧ xh = xh ∧ yh = yh ∧ s.1 = s_1.1 ∧ s.2 = s_1.2 ∧ xh = s_1.3 ∧ yh = s_1.4 ∧ True) ∧
 FoR fa fb fc fd (IntKind.i64.wrap (IntKind.i64.wrap (IntKind.i64.wrap (0 + 1) + 1) + 1)) s_1.1 s_1.2 s_1.3 s_1.4)
 (∃ (s_1 : Fo),
 (Int.ofNat 0 = 0 ∧
 Value.agg #[Value.int IntKind.i64 xl, Value.int IntKind.i64 yl, Value.int IntKind.i64 xl, Value.int IntKind.i64 yh, Value.int IntKind.i64 xh, Value.int IntKind.i64 yl, Value.int IntKind.i64 xh, Value.int IntKind.i64 yh] =
 Value.agg #[Value.int IntKind.i64 xl, Value.int IntKind.i64 yl, Value.int IntKind.i64 xl, Value.int IntKind.i64 yh, Value.int IntKind.i64 xh, Value.int IntKind.i64 yl, Value.int IntKind.i64 xh, Value.int IntKind.i64 yh] ∧
 IntKind.i64.wrap (IntKind.i64.wrap (IntKind.i64.wrap (0 + 1) + 1) + 1) = IntKind.i64.wrap (IntKind.i64.wrap (IntKind.i64.wrap (0 + 1) + 1) + 1) ∧ yl = yl ∧ yh = yh ∧ xl = xl ∧ xh = xh ∧ Int.ofNat 0 = 0 ∧ Int.ofNat 0 = 0 ∧ xl = xl ∧ yl = yl ∧ xl = xl ∧ yh = yh ∧ xh = xh ∧ yl = yl ∧ xh = xh ∧ yh = yh ∧ s.1 = s_1.1 ∧ s.2 = s_1.2 ∧ s.3 = s_1.3 ∧ s.4 = s_1.4 ∧ True) ∧
 FoR fa fb fc fd (IntKind.i64.wrap (IntKind.i64.wrap (IntKind.i64.wrap (0 + 1) + 1) + 1)) s_1.1 s_1.2 s_1.3 s_1.4))) ∧
 BfOk xh yl s.1 s.2 ∧
 bcase (bf xh yl s.a s.b)
 (BfOk s.3 s.4 xh yl ∧
 bcase (bf s.c s.d xh yl)
 (∃ (s : Fo),
 (Int.ofNat 0 = 0 ∧
 Value.agg #[Value.int IntKind.i64 xl, Value.int IntKind.i64 yl, Value.int IntKind.i64 xl, Value.int IntKind.i64 yh, Value.int IntKind.i64 xh, Value.int IntKind.i64 yl, Value.int IntKind.i64 xh, Value.int IntKind.i64 yh] =
 Value.agg #[Value.int IntKind.i64 xl, Value.int IntKind.i64 yl, Value.int IntKind.i64 xl, Value.int IntKind.i64 yh, Value.int IntKind.i64 xh, Value.int IntKind.i64 yl, Value.int IntKind.i64 xh, Value.int IntKind.i64 yh] ∧
 IntKind.i64.wrap (IntKind.i64.wrap (0 + 1) + 1) = IntKind.i64.wrap (IntKind.i64.wrap (0 + 1) + 1) ∧ yl = yl ∧ yh = yh ∧ xl = xl ∧ xh = xh ∧ Int.ofNat 0 = 0 ∧ Int.ofNat 0 = 0 ∧ xl = xl ∧ yl = yl ∧ xl = xl ∧ yh = yh ∧ xh = xh ∧ yl = yl ∧ xh = xh ∧ yh = yh ∧ xh = s.1 ∧ yl = s.2 ∧ xh = s.3 ∧ yl = s.4 ∧ True) ∧
 FoR fa fb fc fd (IntKind.i64.wrap (IntKind.i64.wrap (0 + 1) + 1)) s.1 s.2 s.3 s.4)
 (∃ (s_1 : Fo),
 (Int.ofNat 0 = 0 ∧
 Value.agg #[Value.int IntKind.i64 xl, Value.int IntKind.i64 yl, Value.int IntKind.i64 xl, Value.int IntKind.i64 yh, Value.int IntKind.i64 xh, Value.int IntKind.i64 yl, Value.int IntKind.i64 xh, Value.int IntKind.i64 yh] =
 Value.agg #[Value.int IntKind.i64 xl, Value.int IntKind.i64 yl, Value.int IntKind.i64 xl, Value.int IntKind.i64 yh, Value.int IntKind.i64 xh, Value.int IntKind.i64 yl, Value.int IntKind.i64 xh, Value.int IntKind.i64 yh] ∧
 IntKind.i64.wrap (IntKind.i64.wrap (0 + 1) + 1) = IntKind.i64.wrap (IntKind.i64.wrap (0 + 1) + 1) ∧ yl = yl ∧ yh = yh ∧ xl = xl ∧ xh = xh ∧ Int.ofNat 0 = 0 ∧ Int.ofNat 0 = 0 ∧ xl = xl ∧ yl = yl ∧ xl = xl ∧ yh = yh ∧ xh = xh ∧ yl = yl ∧ xh = xh ∧ yh = yh ∧ xh = s_1.1 ∧ yl = s_1.2 ∧ s.3 = s_1.3 ∧ s.4 = s_1.4 ∧ True) ∧
 FoR fa fb fc fd (IntKind.i64.wrap (IntKind.i64.wrap (0 + 1) + 1)) s_1.1 s_1.2 s_1.3 s_1.4))
 (BfOk s.3 s.4 xh yl ∧
 bcase (bf s.c s.d xh yl)
 (∃ (s_1 : Fo),
 (Int.ofNat 0 = 0 ∧
 Value.agg #[Value.int IntKind.i64 xl, Value.int IntKind.i64 yl, Value.int IntKind.i64 xl, Value.int IntKind.i64 yh, Value.int IntKind.i64 xh, Value.int IntKind.i64 yl, Value.int IntKind.i64 xh, Value.int IntKind.i64 yh] =
 Value.agg #[Value.int IntKind.i64 xl, Value.int IntKind.i64 yl, Value.int IntKind.i64 xl, Value.int IntKind.i64 yh, Value.int IntKind.i64 xh, Value.int IntKind.i64 yl, Value.int IntKind.i64 xh, Value.int IntKind.i64 yh] ∧
 IntKind.i64.wrap (IntKind.i64.wrap (0 + 1) + 1) = IntKind.i64.wrap (IntKind.i64.wrap (0 + 1) + 1) ∧ yl = yl ∧ yh = yh ∧ xl = xl ∧ xh = xh ∧ Int.ofNat 0 = 0 ∧ Int.ofNat 0 = 0 ∧ xl = xl ∧ yl = yl ∧ xl = xl ∧ yh = yh ∧ xh = xh ∧ yl = yl ∧ xh = xh ∧ yh = yh ∧ s.1 = s_1.1 ∧ s.2 = s_1.2 ∧ xh = s_1.3 ∧ yl = s_1.4 ∧ True) ∧
 FoR fa fb fc fd (IntKind.i64.wrap (IntKind.i64.wrap (0 + 1) + 1)) s_1.1 s_1.2 s_1.3 s_1.4)
 (∃ (s_1 : Fo),
 (Int.ofNat 0 = 0 ∧
 Value.agg #[Value.int IntKind.i64 xl, Value.int IntKind.i64 yl, Value.int IntKind.i64 xl, Value.int IntKind.i64 yh, Value.int IntKind.i64 xh, Value.int IntKind.i64 yl, Value.int IntKind.i64 xh, Value.int IntKind.i64 yh] =
 Value.agg #[Value.int IntKind.i64 xl, Value.int IntKind.i64 yl, Value.int IntKind.i64 xl, Value.int IntKind.i64 yh, Value.int IntKind.i64 xh, Value.int IntKind.i64 yl, Value.int IntKind.i64 xh, Value.int IntKind.i64 yh] ∧
 IntKind.i64.wrap (IntKind.i64.wrap (0 + 1) + 1) = IntKind.i64.wrap (IntKind.i64.wrap (0 + 1) + 1) ∧ yl = yl ∧ yh = yh ∧ xl = xl ∧ xh = xh ∧ Int.ofNat 0 = 0 ∧ Int.ofNat 0 = 0 ∧ xl = xl ∧ yl = yl ∧ xl = xl ∧ yh = yh ∧ xh = xh ∧ yl = yl ∧ xh = xh ∧ yh = yh ∧ s.1 = s_1.1 ∧ s.2 = s_1.2 ∧ s.3 = s_1.3 ∧ s.4 = s_1.4 ∧ True) ∧
 FoR fa fb fc fd (IntKind.i64.wrap (IntKind.i64.wrap (0 + 1) + 1)) s_1.1 s_1.2 s_1.3 s_1.4))) ∧
 BfOk xl yh s.1 s.2 ∧
 bcase (bf xl yh s.a s.b)
 (BfOk s.3 s.4 xl yh ∧
 bcase (bf s.c s.d xl yh)
 (∃ (s : Fo),
 (Int.ofNat 0 = 0 ∧
 Value.agg #[Value.int IntKind.i64 xl, Value.int IntKind.i64 yl, Value.int IntKind.i64 xl, Value.int IntKind.i64 yh, Value.int IntKind.i64 xh, Value.int IntKind.i64 yl, Value.int IntKind.i64 xh, Value.int IntKind.i64 yh] =
 Value.agg #[Value.int IntKind.i64 xl, Value.int IntKind.i64 yl, Value.int IntKind.i64 xl, Value.int IntKind.i64 yh, Value.int IntKind.i64 xh, Value.int IntKind.i64 yl, Value.int IntKind.i64 xh, Value.int IntKind.i64 yh] ∧
 IntKind.i64.wrap (0 + 1) = IntKind.i64.wrap (0 + 1) ∧ yl = yl ∧ yh = yh ∧ xl = xl ∧ xh = xh ∧ Int.ofNat 0 = 0 ∧ Int.ofNat 0 = 0 ∧ xl = xl ∧ yl = yl ∧ xl = xl ∧ yh = yh ∧ xh = xh ∧ yl = yl ∧ xh = xh ∧ yh = yh ∧ xl = s.1 ∧ yh = s.2 ∧ xl = s.3 ∧ yh = s.4 ∧ True) ∧
 FoR fa fb fc fd (IntKind.i64.wrap (0 + 1)) s.1 s.2 s.3 s.4)
 (∃ (s_1 : Fo),
 (Int.ofNat 0 = 0 ∧
 Value.agg #[Value.int IntKind.i64 xl, Value.int IntKind.i64 yl, Value.int IntKind.i64 xl, Value.int IntKind.i64 yh, Value.int IntKind.i64 xh, Value.int IntKind.i64 yl, Value.int IntKind.i64 xh, Value.int IntKind.i64 yh] =
 Value.agg #[Value.int IntKind.i64 xl, Value.int IntKind.i64 yl, Value.int IntKind.i64 xl, Value.int IntKind.i64 yh, Value.int IntKind.i64 xh, Value.int IntKind.i64 yl, Value.int IntKind.i64 xh, Value.int IntKind.i64 yh] ∧
 IntKind.i64.wrap (0 + 1) = IntKind.i64.wrap (0 + 1) ∧ yl = yl ∧ yh = yh ∧ xl = xl ∧ xh = xh ∧ Int.ofNat 0 = 0 ∧ Int.ofNat 0 = 0 ∧ xl = xl ∧ yl = yl ∧ xl = xl ∧ yh = yh ∧ xh = xh ∧ yl = yl ∧ xh = xh ∧ yh = yh ∧ xl = s_1.1 ∧ yh = s_1.2 ∧ s.3 = s_1.3 ∧ s.4 = s_1.4 ∧ True) ∧
 FoR fa fb fc fd (IntKind.i64.wrap (0 + 1)) s_1.1 s_1.2 s_1.3 s_1.4))
 (BfOk s.3 s.4 xl yh ∧
 bcase (bf s.c s.d xl yh)
 (∃ (s_1 : Fo),
 (Int.ofNat 0 = 0 ∧
 Value.agg #[Value.int IntKind.i64 xl, Value.int IntKind.i64 yl, Value.int IntKind.i64 xl, Value.int IntKind.i64 yh, Value.int IntKind.i64 xh, Value.int IntKind.i64 yl, Value.int IntKind.i64 xh, Value.int IntKind.i64 yh] =
 Value.agg #[Value.int IntKind.i64 xl, Value.int IntKind.i64 yl, Value.int IntKind.i64 xl, Value.int IntKind.i64 yh, Value.int IntKind.i64 xh, Value.int IntKind.i64 yl, Value.int IntKind.i64 xh, Value.int IntKind.i64 yh] ∧
 IntKind.i64.wrap (0 + 1) = IntKind.i64.wrap (0 + 1) ∧ yl = yl ∧ yh = yh ∧ xl = xl ∧ xh = xh ∧ Int.ofNat 0 = 0 ∧ Int.ofNat 0 = 0 ∧ xl = xl ∧ yl = yl ∧ xl = xl ∧ yh = yh ∧ xh = xh ∧ yl = yl ∧ xh = xh ∧ yh = yh ∧ s.1 = s_1.1 ∧ s.2 = s_1.2 ∧ xl = s_1.3 ∧ yh = s_1.4 ∧ True) ∧
 FoR fa fb fc fd (IntKind.i64.wrap (0 + 1)) s_1.1 s_1.2 s_1.3 s_1.4)
 (∃ (s_1 : Fo),
 (Int.ofNat 0 = 0 ∧
 Value.agg #[Value.int IntKind.i64 xl, Value.int IntKind.i64 yl, Value.int IntKind.i64 xl, Value.int IntKind.i64 yh, Value.int IntKind.i64 xh, Value.int IntKind.i64 yl, Value.int IntKind.i64 xh, Value.int IntKind.i64 yh] =
 Value.agg #[Value.int IntKind.i64 xl, Value.int IntKind.i64 yl, Value.int IntKind.i64 xl, Value.int IntKind.i64 yh, Value.int IntKind.i64 xh, Value.int IntKind.i64 yl, Value.int IntKind.i64 xh, Value.int IntKind.i64 yh] ∧
 IntKind.i64.wrap (0 + 1) = IntKind.i64.wrap (0 + 1) ∧ yl = yl ∧ yh = yh ∧ xl = xl ∧ xh = xh ∧ Int.ofNat 0 = 0 ∧ Int.ofNat 0 = 0 ∧ xl = xl ∧ yl = yl ∧ xl = xl ∧ yh = yh ∧ xh = xh ∧ yl = yl ∧ xh = xh ∧ yh = yh ∧ s.1 = s_1.1 ∧ s.2 = s_1.2 ∧ s.3 = s_1.3 ∧ s.4 = s_1.4 ∧ True) ∧
 FoR fa fb fc fd (IntKind.i64.wrap (0 + 1)) s_1.1 s_1.2 s_1.3 s_1.4))) ∧
 BfOk xl yl xl yl ∧
 bcase (bf xl yl xl yl)
 (BfOk xl yl xl yl ∧
 bcase (bf xl yl xl yl)
 (∃ (s : Fo),
 (Int.ofNat 0 = 0 ∧
 Value.agg #[Value.int IntKind.i64 xl, Value.int IntKind.i64 yl, Value.int IntKind.i64 xl, Value.int IntKind.i64 yh, Value.int IntKind.i64 xh, Value.int IntKind.i64 yl, Value.int IntKind.i64 xh, Value.int IntKind.i64 yh] =
 Value.agg #[Value.int IntKind.i64 xl, Value.int IntKind.i64 yl, Value.int IntKind.i64 xl, Value.int IntKind.i64 yh, Value.int IntKind.i64 xh, Value.int IntKind.i64 yl, Value.int IntKind.i64 xh, Value.int IntKind.i64 yh] ∧
 Int.ofNat 0 = 0 ∧ yl = yl ∧ yh = yh ∧ xl = xl ∧ xh = xh ∧ Int.ofNat 0 = 0 ∧ Int.ofNat 0 = 0 ∧ xl = xl ∧ yl = yl ∧ xl = xl ∧ yh = yh ∧ xh = xh ∧ yl = yl ∧ xh = xh ∧ yh = yh ∧ xl = s.1 ∧ yl = s.2 ∧ xl = s.3 ∧ yl = s.4 ∧ True) ∧
 FoR fa fb fc fd 0 s.1 s.2 s.3 s.4)
 (∃ (s : Fo),
 (Int.ofNat 0 = 0 ∧
 Value.agg #[Value.int IntKind.i64 xl, Value.int IntKind.i64 yl, Value.int IntKind.i64 xl, Value.int IntKind.i64 yh, Value.int IntKind.i64 xh, Value.int IntKind.i64 yl, Value.int IntKind.i64 xh, Value.int IntKind.i64 yh] =
 Value.agg #[Value.int IntKind.i64 xl, Value.int IntKind.i64 yl, Value.int IntKind.i64 xl, Value.int IntKind.i64 yh, Value.int IntKind.i64 xh, Value.int IntKind.i64 yl, Value.int IntKind.i64 xh, Value.int IntKind.i64 yh] ∧
 Int.ofNat 0 = 0 ∧ yl = yl ∧ yh = yh ∧ xl = xl ∧ xh = xh ∧ Int.ofNat 0 = 0 ∧ Int.ofNat 0 = 0 ∧ xl = xl ∧ yl = yl ∧ xl = xl ∧ yh = yh ∧ xh = xh ∧ yl = yl ∧ xh = xh ∧ yh = yh ∧ xl = s.1 ∧ yl = s.2 ∧ xl = s.3 ∧ yl = s.4 ∧ True) ∧
 FoR fa fb fc fd 0 s.1 s.2 s.3 s.4))
 (BfOk xl yl xl yl ∧
 bcase (bf xl yl xl yl)
 (∃ (s : Fo),
 (Int.ofNat 0 = 0 ∧
 Value.agg #[Value.int IntKind.i64 xl, Value.int IntKind.i64 yl, Value.int IntKind.i64 xl, Value.int IntKind.i64 yh, Value.int IntKind.i64 xh, Value.int IntKind.i64 yl, Value.int IntKind.i64 xh, Value.int IntKind.i64 yh] =
 Value.agg #[Value.int IntKind.i64 xl, Value.int IntKind.i64 yl, Value.int IntKind.i64 xl, Value.int IntKind.i64 yh, Value.int IntKind.i64 xh, Value.int IntKind.i64 yl, Value.int IntKind.i64 xh, Value.int IntKind.i64 yh] ∧
 Int.ofNat 0 = 0 ∧ yl = yl ∧ yh = yh ∧ xl = xl ∧ xh = xh ∧ Int.ofNat 0 = 0 ∧ Int.ofNat 0 = 0 ∧ xl = xl ∧ yl = yl ∧ xl = xl ∧ yh = yh ∧ xh = xh ∧ yl = yl ∧ xh = xh ∧ yh = yh ∧ xl = s.1 ∧ yl = s.2 ∧ xl = s.3 ∧ yl = s.4 ∧ True) ∧
 FoR fa fb fc fd 0 s.1 s.2 s.3 s.4)
 (∃ (s : Fo),
 (Int.ofNat 0 = 0 ∧
 Value.agg #[Value.int IntKind.i64 xl, Value.int IntKind.i64 yl, Value.int IntKind.i64 xl, Value.int IntKind.i64 yh, Value.int IntKind.i64 xh, Value.int IntKind.i64 yl, Value.int IntKind.i64 xh, Value.int IntKind.i64 yh] =
 Value.agg #[Value.int IntKind.i64 xl, Value.int IntKind.i64 yl, Value.int IntKind.i64 xl, Value.int IntKind.i64 yh, Value.int IntKind.i64 xh, Value.int IntKind.i64 yl, Value.int IntKind.i64 xh, Value.int IntKind.i64 yh] ∧
 Int.ofNat 0 = 0 ∧ yl = yl ∧ yh = yh ∧ xl = xl ∧ xh = xh ∧ Int.ofNat 0 = 0 ∧ Int.ofNat 0 = 0 ∧ xl = xl ∧ yl = yl ∧ xl = xl ∧ yh = yh ∧ xh = xh ∧ yl = yl ∧ xh = xh ∧ yh = yh ∧ xl = s.1 ∧ yl = s.2 ∧ xl = s.3 ∧ yl = s.4 ∧ True) ∧
 FoR fa fb fc fd 0 s.1 s.2 s.3 s.4))))
 ((∀ (s : Fo),
 FoR fa fb fc fd 0 s.1 s.2 s.3 s.4 →
 (∀ (s : Fo),
 FoR fa fb fc fd (IntKind.i64.wrap (0 + 1)) s.1 s.2 s.3 s.4 →
 (∀ (s : Fo),
 FoR fa fb fc fd (IntKind.i64.wrap (IntKind.i64.wrap (0 + 1) + 1)) s.1 s.2 s.3 s.4 →
 (∀ (s : Fo),
 FoR fa fb fc fd (IntKind.i64.wrap (IntKind.i64.wrap (IntKind.i64.wrap (0 + 1) + 1) + 1)) s.1 s.2 s.3 s.4 →
 PlOk s.1 s.2 ∧
 PlOk s.3 s.4 ∧
 bcase (decide (ap s.c s.d < ap s.a s.b))
 (bcase (!ex s.c s.d) (K (Value.tuple #[Value.agg #[Value.int IntKind.i64 (ap s.a s.b), Value.int IntKind.i64 (IntKind.i64.wrap (IntKind.i64.wrap (ap s.c s.d + 21600000) + 1))], Value.int IntKind.i64 0])) (K (Value.tuple #[Value.agg #[Value.int IntKind.i64 (ap s.a s.b), Value.int IntKind.i64 (IntKind.i64.wrap (ap s.c s.d + 21600000))], Value.int IntKind.i64 0])))
 (bcase (!ex s.c s.d) (K (Value.tuple #[Value.agg #[Value.int IntKind.i64 (ap s.a s.b), Value.int IntKind.i64 (IntKind.i64.wrap (ap s.c s.d + 1))], Value.int IntKind.i64 0])) (K (Value.tuple #[Value.agg #[Value.int IntKind.i64 (ap s.a s.b), Value.int IntKind.i64 (ap s.c s.d)], Value.int IntKind.i64 0])))) ∧
 BfOk xh yh s.1 s.2 ∧
 bcase (bf xh yh s.a s.b)
 (BfOk s.3 s.4 xh yh ∧
 bcase (bf s.c s.d xh yh)
 (∃ (s : Fo),
 (Int.ofNat 0 = 0 ∧
 Value.agg #[Value.int IntKind.i64 xl, Value.int IntKind.i64 yl, Value.int IntKind.i64 xl, Value.int IntKind.i64 yh, Value.int IntKind.i64 xh, Value.int IntKind.i64 yl, Value.int IntKind.i64 xh, Value.int IntKind.i64 yh] =
 Value.agg #[Value.int IntKind.i64 xl, Value.int IntKind.i64 yl, Value.int IntKind.i64 xl, Value.int IntKind.i64 yh, Value.int IntKind.i64 xh, Value.int IntKind.i64 yl, Value.int IntKind.i64 xh, Value.int IntKind.i64 yh] ∧
 IntKind.i64.wrap (IntKind.i64.wrap (IntKind.i64.wrap (0 + 1) + 1) + 1) = IntKind.i64.wrap (IntKind.i64.wrap (IntKind.i64.wrap (0 + 1) + 1) + 1) ∧ yl = yl ∧ yh = yh ∧ xl = xl ∧ xh = xh ∧ Int.ofNat 0 = 0 ∧ Int.ofNat 0 = 0 ∧ xl = xl ∧ yl = yl ∧ xl = xl ∧ yh = yh ∧ xh = xh ∧ yl = yl ∧ xh = xh ∧ yh = yh ∧ xh = s.1 ∧ yh = s.2 ∧ xh = s.3 ∧ yh = s.4 ∧ True) ∧
 FoR fa fb fc fd (IntKind.i64.wrap (IntKind.i64.wrap (IntKind.i64.wrap (0 + 1) + 1) + 1)) s.1 s.2 s.3 s.4)
 (∃ (s_1 : Fo),
 (Int.ofNat 0 = 0 ∧
 Value.agg #[Value.int IntKind.i64 xl, Value.int IntKind.i64 yl, Value.int IntKind.i64 xl, Value.int IntKind.i64 yh, Value.int IntKind.i64 xh, Value.int IntKind.i64 yl, Value.int IntKind.i64 xh, Value.int IntKind.i64 yh] =
 Value.agg #[Value.int IntKind.i64 xl, Value.int IntKind.i64 yl, Value.int IntKind.i64 xl, Value.int IntKind.i64 yh, Value.int IntKind.i64 xh, Value.int IntKind.i64 yl, Value.int IntKind.i64 xh, Value.int IntKind.i64 yh] ∧
 IntKind.i64.wrap (IntKind.i64.wrap (IntKind.i64.wrap (0 + 1) + 1) + 1) = IntKind.i64.wrap (IntKind.i64.wrap (IntKind.i64.wrap (0 + 1) + 1) + 1) ∧ yl = yl ∧ yh = yh ∧ xl = xl ∧ xh = xh ∧ Int.ofNat 0 = 0 ∧ Int.ofNat 0 = 0 ∧ xl = xl ∧ yl = yl ∧ xl = xl ∧ yh = yh ∧ xh = xh ∧ yl = yl ∧ xh = xh ∧ yh = yh ∧ xh = s_1.1 ∧ yh = s_1.2 ∧ s.3 = s_1.3 ∧ s.4 = s_1.4 ∧ True) ∧
 FoR fa fb fc fd (IntKind.i64.wrap (IntKind.i64.wrap (IntKind.i64.wrap (0 + 1) + 1) + 1)) s_1.1 s_1.2 s_1.3 s_1.4))
 (BfOk s.3 s.4 xh yh ∧
 bcase (bf s.c s.d xh yh)
 (∃ (s_1 : Fo),
 (Int.ofNat 0 = 0 ∧
 Value.agg #[Value.int IntKind.i64 xl, Value.int IntKind.i64 yl, Value.int IntKind.i64 xl, Value.int IntKind.i64 yh, Value.int IntKind.i64 xh, Value.int IntKind.i64 yl, Value.int IntKind.i64 xh, Value.int IntKind.i64 yh] =
 Value.agg #[Value.int IntKind.i64 xl, Value.int IntKind.i64 yl, Value.int IntKind.i64 xl, Value.int IntKind.i64 yh, Value.int IntKind.i64 xh, Value.int IntKind.i64 yl, Value.int IntKind.i64 xh, Value.int IntKind.i64 yh] ∧
 IntKind.i64.wrap (IntKind.i64.wrap (IntKind.i64.wrap (0 + 1) + 1) + 1) = IntKind.i64.wrap (IntKind.i64.wrap (IntKind.i64.wrap (0 + 1) + 1) + 1) ∧ yl = yl ∧ yh = yh ∧ xl = xl ∧ xh = xh ∧ Int.ofNat 0 = 0 ∧ Int.ofNat 0 = 0 ∧ xl = xl ∧ yl = yl ∧ xl = xl ∧ yh = yh ∧ xh = xh ∧ yl = yl ∧ xh = xh ∧ yh = yh ∧ s.1 = s_1.1 ∧ s.2 = s_1.2 ∧ xh = s_1.3 ∧ yh = s_1.4 ∧ True) ∧
 FoR fa fb fc fd (IntKind.i64.wrap (IntKind.i64.wrap (IntKind.i64.wrap (0 + 1) + 1) + 1)) s_1.1 s_1.2 s_1.3 s_1.4)
 (∃ (s_1 : Fo),
 (Int.ofNat 0 = 0 ∧
 Value.agg #[Value.int IntKind.i64 xl, Value.int IntKind.i64 yl, Value.int IntKind.i64 xl, Value.int IntKind.i64 yh, Value.int IntKind.i64 xh, Value.int IntKind.i64 yl, Value.int IntKind.i64 xh, Value.int IntKind.i64 yh] =
 Value.agg #[Value.int IntKind.i64 xl, Value.int IntKind.i64 yl, Value.int IntKind.i64 xl, Value.int IntKind.i64 yh, Value.int IntKind.i64 xh, Value.int IntKind.i64 yl, Value.int IntKind.i64 xh, Value.int IntKind.i64 yh] ∧
 IntKind.i64.wrap (IntKind.i64.wrap (IntKind.i64.wrap (0 + 1) + 1) + 1) = IntKind.i64.wrap (IntKind.i64.wrap (IntKind.i64.wrap (0 + 1) + 1) + 1) ∧ yl = yl ∧ yh = yh ∧ xl = xl ∧ xh = xh ∧ Int.ofNat 0 = 0 ∧ Int.ofNat 0 = 0 ∧ xl = xl ∧ yl = yl ∧ xl = xl ∧ yh = yh ∧ xh = xh ∧ yl = yl ∧ xh = xh ∧ yh = yh ∧ s.1 = s_1.1 ∧ s.2 = s_1.2 ∧ s.3 = s_1.3 ∧ s.4 = s_1.4 ∧ True) ∧
 FoR fa fb fc fd (IntKind.i64.wrap (IntKind.i64.wrap (IntKind.i64.wrap (0 + 1) + 1) + 1)) s_1.1 s_1.2 s_1.3 s_1.4))) ∧
 BfOk xh yl s.1 s.2 ∧
 bcase (bf xh yl s.a s.b)
 (BfOk s.3 s.4 xh yl ∧
 bcase (bf s.c s.d xh yl)
 (∃ (s : Fo),
 (Int.ofNat 0 = 0 ∧
 Value.agg #[Value.int IntKind.i64 xl, Value.int IntKind.i64 yl, Value.int IntKind.i64 xl, Value.int IntKind.i64 yh, Value.int IntKind.i64 xh, Value.int IntKind.i64 yl, Value.int IntKind.i64 xh, Value.int IntKind.i64 yh] =
 Value.agg #[Value.int IntKind.i64 xl, Value.int IntKind.i64 yl, Value.int IntKind.i64 xl, Value.int IntKind.i64 yh, Value.int IntKind.i64 xh, Value.int IntKind.i64 yl, Value.int IntKind.i64 xh, Value.int IntKind.i64 yh] ∧
 IntKind.i64.wrap (IntKind.i64.wrap (0 + 1) + 1) = IntKind.i64.wrap (IntKind.i64.wrap (0 + 1) + 1) ∧ yl = yl ∧ yh = yh ∧ xl = xl ∧ xh = xh ∧ Int.ofNat 0 = 0 ∧ Int.ofNat 0 = 0 ∧ xl = xl ∧ yl = yl ∧ xl = xl ∧ yh = yh ∧ xh = xh ∧ yl = yl ∧ xh = xh ∧ yh = yh ∧ xh = s.1 ∧ yl = s.2 ∧ xh = s.3 ∧ yl = s.4 ∧ True) ∧
 FoR fa fb fc fd (IntKind.i64.wrap (IntKind.i64.wrap (0 + 1) + 1)) s.1 s.2 s.3 s.4)
 (∃ (s_1 : Fo),
 (Int.ofNat 0 = 0 ∧
 Value.agg #[Value.int IntKind.i64 xl, Value.int IntKind.i64 yl, Value.int IntKind.i64 xl, Value.int IntKind.i64 yh, Value.int IntKind.i64 xh, Value.int IntKind.i64 yl, Value.int IntKind.i64 xh, Value.int IntKind.i64 yh] =
 Value.agg #[Value.int IntKind.i64 xl, Value.int IntKind.i64 yl, Value.int IntKind.i64 xl, Value.int IntKind.i64 yh, Value.int IntKind.i64 xh, Value.int IntKind.i64 yl, Value.int IntKind.i64 xh, Value.int IntKind.i64 yh] ∧
 IntKind.i64.wrap (IntKind.i64.wrap (0 + 1) + 1) = IntKind.i64.wrap (IntKind.i64.wrap (0 + 1) + 1) ∧ yl = yl ∧ yh = yh ∧ xl = xl ∧ xh = xh ∧ Int.ofNat 0 = 0 ∧ Int.ofNat 0 = 0 ∧ xl = xl ∧ yl = yl ∧ xl = xl ∧ yh = yh ∧ xh = xh ∧ yl = yl ∧ xh = xh ∧ yh = yh ∧ xh = s_1.1 ∧ yl = s_1.2 ∧ s.3 = s_1.3 ∧ s.4 = s_1.4 ∧ True) ∧
 FoR fa fb fc fd (IntKind.i64.wrap (IntKind.i64.wrap (0 + 1) + 1)) s_1.1 s_1.2 s_1.3 s_1.4))
 (BfOk s.3 s.4 xh yl ∧
 bcase (bf s.c s.d xh yl)
 (∃ (s_1 : Fo),
 (Int.ofNat 0 = 0 ∧
 Value.agg #[Value.int IntKind.i64 xl, Value.int IntKind.i64 yl, Value.int IntKind.i64 xl, Value.int IntKind.i64 yh, Value.int IntKind.i64 xh, Value.int IntKind.i64 yl, Value.int IntKind.i64 xh, Value.int IntKind.i64 yh] =
 Value.agg #[Value.int IntKind.i64 xl, Value.int IntKind.i64 yl, Value.int IntKind.i64 xl, Value.int IntKind.i64 yh, Value.int IntKind.i64 xh, Value.int IntKind.i64 yl, Value.int IntKind.i64 xh, Value.int IntKind.i64 yh] ∧
 IntKind.i64.wrap (IntKind.i64.wrap (0 + 1) + 1) = IntKind.i64.wrap (IntKind.i64.wrap (0 + 1) + 1) ∧ yl = yl ∧ yh = yh ∧ xl = xl ∧ xh = xh ∧ Int.ofNat 0 = 0 ∧ Int.ofNat 0 = 0 ∧ xl = xl ∧ yl = yl ∧ xl = xl ∧ yh = yh ∧ xh = xh ∧ yl = yl ∧ xh = xh ∧ yh = yh ∧ s.1 = s_1.1 ∧ s.2 = s_1.2 ∧ xh = s_1.3 ∧ yl = s_1.4 ∧ True) ∧
 FoR fa fb fc fd (IntKind.i64.wrap (IntKind.i64.wrap (0 + 1) + 1)) s_1.1 s_1.2 s_1.3 s_1.4)
 (∃ (s_1 : Fo),
 (Int.ofNat 0 = 0 ∧
 Value.agg #[Value.int IntKind.i64 xl, Value.int IntKind.i64 yl, Value.int IntKind.i64 xl, Value.int IntKind.i64 yh, Value.int IntKind.i64 xh, Value.int IntKind.i64 yl, Value.int IntKind.i64 xh, Value.int IntKind.i64 yh] =
 Value.agg #[Value.int IntKind.i64 xl, Value.int IntKind.i64 yl, Value.int IntKind.i64 xl, Value.int IntKind.i64 yh, Value.int IntKind.i64 xh, Value.int IntKind.i64 yl, Value.int IntKind.i64 xh, Value.int IntKind.i64 yh] ∧
 IntKind.i64.wrap (IntKind.i64.wrap (0 + 1) + 1) = IntKind.i64.wrap (IntKind.i64.wrap (0 + 1) + 1) ∧ yl = yl ∧ yh = yh ∧ xl = xl ∧ xh = xh ∧ Int.ofNat 0 = 0 ∧ Int.ofNat 0 = 0 ∧ xl = xl ∧ yl = yl ∧ xl = xl ∧ yh = yh ∧ xh = xh ∧ yl = yl ∧ xh = xh ∧ yh = yh ∧ s.1 = s_1.1 ∧ s.2 = s_1.2 ∧ s.3 = s_1.3 ∧ s.4 = s_1.4 ∧ True) ∧
 FoR fa fb fc fd (IntKind.i64.wrap (IntKind.i64.wrap (0 + 1) + 1)) s_1.1 s_1.2 s_1.3 s_1.4))) ∧
 BfOk xl yh s.1 s.2 ∧
 bcase (bf xl yh s.a s.b)
 (BfOk s.3 s.4 xl yh ∧
 bcase (bf s.c s.d xl yh)
 (∃ (s : Fo),
 (Int.ofNat 0 = 0 ∧
 Value.agg #[Value.int IntKind.i64 xl, Value.int IntKind.i64 yl, Value.int IntKind.i64 xl, Value.int IntKind.i64 yh, Value.int IntKind.i64 xh, Value.int IntKind.i64 yl, Value.int IntKind.i64 xh, Value.int IntKind.i64 yh] =
 Value.agg #[Value.int IntKind.i64 xl, Value.int IntKind.i64 yl, Value.int IntKind.i64 xl, Value.int IntKind.i64 yh, Value.int IntKind.i64 xh, Value.int IntKind.i64 yl, Value.int IntKind.i64 xh, Value.int IntKind.i64 yh] ∧
 IntKind.i64.wrap (0 + 1) = IntKind.i64.wrap (0 + 1) ∧ yl = yl ∧ yh = yh ∧ xl = xl ∧ xh = xh ∧ Int.ofNat 0 = 0 ∧ Int.ofNat 0 = 0 ∧ xl = xl ∧ yl = yl ∧ xl = xl ∧ yh = yh ∧ xh = xh ∧ yl = yl ∧ xh = xh ∧ yh = yh ∧ xl = s.1 ∧ yh = s.2 ∧ xl = s.3 ∧ yh = s.4 ∧ True) ∧
 FoR fa fb fc fd (IntKind.i64.wrap (0 + 1)) s.1 s.2 s.3 s.4)
 (∃ (s_1 : Fo),
 (Int.ofNat 0 = 0 ∧
 Value.agg #[Value.int IntKind.i64 xl, Value.int IntKind.i64 yl, Value.int IntKind.i64 xl, Value.int IntKind.i64 yh, Value.int IntKind.i64 xh, Value.int IntKind.i64 yl, Value.int IntKind.i64 xh, Value.int IntKind.i64 yh] =
 Value.agg #[Value.int IntKind.i64 xl, Value.int IntKind.i64 yl, Value.int IntKind.i64 xl, Value.int IntKind.i64 yh, Value.int IntKind.i64 xh, Value.int IntKind.i64 yl, Value.int IntKind.i64 xh, Value.int IntKind.i64 yh] ∧
 IntKind.i64.wrap (0 + 1) = IntKind.i64.wrap (0 + 1) ∧ yl = yl ∧ yh = yh ∧ xl = xl ∧ xh = xh ∧ Int.ofNat 0 = 0 ∧ Int.ofNat 0 = 0 ∧ xl = xl ∧ yl = yl ∧ xl = xl ∧ yh = yh ∧ xh = xh ∧ yl = yl ∧ xh = xh ∧ yh = yh ∧ xl = s_1.1 ∧ yh = s_1.2 ∧ s.3 = s_1.3 ∧ s.4 = s_1.4 ∧ True) ∧
 FoR fa fb fc fd (IntKind.i64.wrap (0 + 1)) s_1.1 s_1.2 s_1.3 s_1.4))
 (BfOk s.3 s.4 xl yh ∧
 bcase (bf s.c s.d xl yh)
 (∃ (s_1 : Fo),
 (Int.ofNat 0 = 0 ∧
 Value.agg #[Value.int IntKind.i64 xl, Value.int IntKind.i64 yl, Value.int IntKind.i64 xl, Value.int IntKind.i64 yh, Value.int IntKind.i64 xh, Value.int IntKind.i64 yl, Value.int IntKind.i64 xh, Value.int IntKind.i64 yh] =
 Value.agg #[Value.int IntKind.i64 xl, Value.int IntKind.i64 yl, Value.int IntKind.i64 xl, Value.int IntKind.i64 yh, Value.int IntKind.i64 xh, Value.int IntKind.i64 yl, Value.int IntKind.i64 xh, Value.int IntKind.i64 yh] ∧
 IntKind.i64.wrap (0 + 1) = IntKind.i64.wrap (0 + 1) ∧ yl = yl ∧ yh = yh ∧ xl = xl ∧ xh = xh ∧ Int.ofNat 0 = 0 ∧ Int.ofNat 0 = 0 ∧ xl = xl ∧ yl = yl ∧ xl = xl ∧ yh = yh ∧ xh = xh ∧ yl = yl ∧ xh = xh ∧ yh = yh ∧ s.1 = s_1.1 ∧ s.2 = s_1.2 ∧ xl = s_1.3 ∧ yh = s_1.4 ∧ True) ∧
 FoR fa fb fc fd (IntKind.i64.wrap (0 + 1)) s_1.1 s_1.2 s_1.3 s_1.4)
 (∃ (s_1 : Fo),
 (Int.ofNat 0 = 0 ∧
 Value.agg #[Value.int IntKind.i64 xl, Value.int IntKind.i64 yl, Value.int IntKind.i64 xl, Value.int IntKind.i64 yh, Value.int IntKind.i64 xh, Value.int IntKind.i64 yl, Value.int IntKind.i64 xh, Value.int IntKind.i64 yh] =
 Value.agg #[Value.int IntKind.i64 xl, Value.int IntKind.i64 yl, Value.int IntKind.i64 xl, Value.int IntKind.i64 yh, Value.int IntKind.i64 xh, Value.int IntKind.i64 yl, Value.int IntKind.i64 xh, Value.int IntKind.i64 yh] ∧
 IntKind.i64.wrap (0 + 1) = IntKind.i64.wrap (0 + 1) ∧ yl = yl ∧ yh = yh ∧ xl = xl ∧ xh = xh ∧ Int.ofNat 0 = 0 ∧ Int.ofNat 0 = 0 ∧ xl = xl ∧ yl = yl ∧ xl = xl ∧ yh = yh ∧ xh = xh ∧ yl = yl ∧ xh = xh ∧ yh = yh ∧ s.1 = s_1.1 ∧ s.2 = s_1.2 ∧ s.3 = s_1.3 ∧ s.4 = s_1.4 ∧ True) ∧
 FoR fa fb fc fd (IntKind.i64.wrap (0 + 1)) s_1.1 s_1.2 s_1.3 s_1.4))) ∧
 BfOk xl yl xl yl ∧
 bcase (bf xl yl xl yl)
 (BfOk xl yl xl yl ∧
 bcase (bf xl yl xl yl)
 (∃ (s : Fo),
 (Int.ofNat 0 = 0 ∧
 Value.agg #[Value.int IntKind.i64 xl, Value.int IntKind.i64 yl, Value.int IntKind.i64 xl, Value.int IntKind.i64 yh, Value.int IntKind.i64 xh, Value.int IntKind.i64 yl, Value.int IntKind.i64 xh, Value.int IntKind.i64 yh] =
 Value.agg #[Value.int IntKind.i64 xl, Value.int IntKind.i64 yl, Value.int IntKind.i64 xl, Value.int IntKind.i64 yh, Value.int IntKind.i64 xh, Value.int IntKind.i64 yl, Value.int IntKind.i64 xh, Value.int IntKind.i64 yh] ∧
 Int.ofNat 0 = 0 ∧ yl = yl ∧ yh = yh ∧ xl = xl ∧ xh = xh ∧ Int.ofNat 0 = 0 ∧ Int.ofNat 0 = 0 ∧ xl = xl ∧ yl = yl ∧ xl = xl ∧ yh = yh ∧ xh = xh ∧ yl = yl ∧ xh = xh ∧ yh = yh ∧ xl = s.1 ∧ yl = s.2 ∧ xl = s.3 ∧ yl = s.4 ∧ True) ∧
 FoR fa fb fc fd 0 s.1 s.2 s.3 s.4)
 (∃ (s : Fo),
 (Int.ofNat 0 = 0 ∧
 Value.agg #[Value.int IntKind.i64 xl, Value.int IntKind.i64 yl, Value.int IntKind.i64 xl, Value.int IntKind.i64 yh, Value.int IntKind.i64 xh, Value.int IntKind.i64 yl, Value.int IntKind.i64 xh, Value.int IntKind.i64 yh] =
 Value.agg #[Value.int IntKind.i64 xl, Value.int IntKind.i64 yl, Value.int IntKind.i64 xl, Value.int IntKind.i64 yh, Value.int IntKind.i64 xh, Value.int IntKind.i64 yl, Value.int IntKind.i64 xh, Value.int IntKind.i64 yh] ∧
 Int.ofNat 0 = 0 ∧ yl = yl ∧ yh = yh ∧ xl = xl ∧ xh = xh ∧ Int.ofNat 0 = 0 ∧ Int.ofNat 0 = 0 ∧ xl = xl ∧ yl = yl ∧ xl = xl ∧ yh = yh ∧ xh = xh ∧ yl = yl ∧ xh = xh ∧ yh = yh ∧ xl = s.1 ∧ yl = s.2 ∧ xl = s.3 ∧ yl = s.4 ∧ True) ∧
 FoR fa fb fc fd 0 s.1 s.2 s.3 s.4))
 (BfOk xl yl xl yl ∧
 bcase (bf xl yl xl yl)
 (∃ (s : Fo),
 (Int.ofNat 0 = 0 ∧
 Value.agg #[Value.int IntKind.i64 xl, Value.int IntKind.i64 yl, Value.int IntKind.i64 xl, Value.int IntKind.i64 yh, Value.int IntKind.i64 xh, Value.int IntKind.i64 yl, Value.int IntKind.i64 xh, Value.int IntKind.i64 yh] =
 Value.agg #[Value.int IntKind.i64 xl, Value.int IntKind.i64 yl, Value.int IntKind.i64 xl, Value.int IntKind.i64 yh, Value.int IntKind.i64 xh, Value.int IntKind.i64 yl, Value.int IntKind.i64 xh, Value.int IntKind.i64 yh] ∧
 Int.ofNat 0 = 0 ∧ yl = yl ∧ yh = yh ∧ xl = xl ∧ xh = xh ∧ Int.ofNat 0 = 0 ∧ Int.ofNat 0 = 0 ∧ xl = xl ∧ yl = yl ∧ xl = xl ∧ yh = yh ∧ xh = xh ∧ yl = yl ∧ xh = xh ∧ yh = yh ∧ xl = s.1 ∧ yl = s.2 ∧ xl = s.3 ∧ yl = s.4 ∧ True) ∧
 FoR fa fb fc fd 0 s.1 s.2 s.3 s.4)
 (∃ (s : Fo),
 (Int.ofNat 0 = 0 ∧
 Value.agg #[Value.int IntKind.i64 xl, Value.int IntKind.i64 yl, Value.int IntKind.i64 xl, Value.int IntKind.i64 yh, Value.int IntKind.i64 xh, Value.int IntKind.i64 yl, Value.int IntKind.i64 xh, Value.int IntKind.i64 yh] =
 Value.agg #[Value.int IntKind.i64 xl, Value.int IntKind.i64 yl, Value.int IntKind.i64 xl, Value.int IntKind.i64 yh, Value.int IntKind.i64 xh, Value.int IntKind.i64 yl, Value.int IntKind.i64 xh, Value.int IntKind.i64 yh] ∧
 Int.ofNat 0 = 0 ∧ yl = yl ∧ yh = yh ∧ xl = xl ∧ xh = xh ∧ Int.ofNat 0 = 0 ∧ Int.ofNat 0 = 0 ∧ xl = xl ∧ yl = yl ∧ xl = xl ∧ yh = yh ∧ xh = xh ∧ yl = yl ∧ xh = xh ∧ yh = yh ∧ xl = s.1 ∧ yl = s.2 ∧ xl = s.3 ∧ yl = s.4 ∧ True) ∧
 FoR fa fb fc fd 0 s.1 s.2 s.3 s.4)))))) := by kernel_rfl
end Go.Proofs.YtjdcicjhpegphaaGreat
/- The directions of a box: contracts. -/
namespace Go.Proofs.YtjdcicjhpegphaaGreat
open Go Go.Abs Go.RowKit
def stp (p : Fo) (x y : Int) : Fo := ⟨if befI x y p.a p.b = true then x else p.a, if befI x y p.a p.b = true then y else p.b, if befI p.c p.d x y = true then x else p.c, if befI p.c p.d x y = true then y else p.d⟩
def fo1 (yl xl : Int) : Fo := stp ⟨xl, yl, xl, yl⟩ xl yl
def fo2 (yl yh xl : Int) : Fo := stp (fo1 yl xl) xl yh
def fo3 (yl yh xl xh : Int) : Fo := stp (fo2 yl yh xl) xh yl
def fo4 (yl yh xl xh : Int) : Fo := stp (fo3 yl yh xl xh) xh yh
def foN (yl yh xl xh i : Int) : Fo := if i = 0 then fo1 yl xl else if i = 1 then fo2 yl yh xl else if i = 2 then fo3 yl yh xl xh else fo4 yl yh xl xh
def foA (yl yh xl xh i : Int) : Int := (foN yl yh xl xh i).a
def foB (yl yh xl xh i : Int) : Int := (foN yl yh xl xh i).b
def foC (yl yh xl xh i : Int) : Int := (foN yl yh xl xh i).c
def foD (yl yh xl xh i : Int) : Int := (foN yl yh xl xh i).d
theorem foN1 (yl yh xl xh : Int) : foN yl yh xl xh 1 = stp (foN yl yh xl xh 0) xl yh := rfl
theorem foN2 (yl yh xl xh : Int) : foN yl yh xl xh 2 = stp (foN yl yh xl xh 1) xh yl := rfl
theorem foN3 (yl yh xl xh : Int) : foN yl yh xl xh 3 = stp (foN yl yh xl xh 2) xh yh := rfl
def CnOk (x y : Int) : Prop := Fx2 x ∧ Fx2 y ∧ (x ≠ 0 ∨ y ≠ 0)
def FoOk (p : Fo) : Prop := CnOk p.a p.b ∧ CnOk p.c p.d
theorem stp_ok {p : Fo} {x y : Int} (h : FoOk p) (k : CnOk x y) : FoOk (stp p x y) := by
  unfold stp FoOk
  refine ⟨?_, ?_⟩ <;> dsimp only <;> split
  · exact k
  · exact h.1
  · exact k
  · exact h.2
theorem CnOk.pl {x y : Int} (h : CnOk x y) : PlOk x y := by
  obtain ⟨h1, h2, h3⟩ := h
  unfold Fx2 at h1 h2
  exact ⟨by omega, by omega, by omega, by omega, h3⟩
def BoxO (yl yh xl xh : Int) : Prop := xl ≤ 0 ∧ 0 ≤ xh ∧ yl ≤ 0 ∧ 0 ≤ yh
instance (yl yh xl xh : Int) : Decidable (BoxO yl yh xl xh) := by unfold BoxO; infer_instance
theorem box_corners {yl yh xl xh : Int} (h1 : FixV yl yh) (h2 : FixV xl xh) (h : ¬ BoxO yl yh xl xh) : CnOk xl yl ∧ CnOk xl yh ∧ CnOk xh yl ∧ CnOk xh yh := by
  unfold FixV at h1 h2
  unfold BoxO at h
  unfold CnOk Fx2
  omega
theorem fo_ok {yl yh xl xh : Int} (h1 : FixV yl yh) (h2 : FixV xl xh) (h : ¬ BoxO yl yh xl xh) : FoOk (foN yl yh xl xh 0) ∧ FoOk (foN yl yh xl xh 1) ∧ FoOk (foN yl yh xl xh 2) ∧ FoOk (foN yl yh xl xh 3) := by
  obtain ⟨a, b, c, d⟩ := box_corners h1 h2 h
  have e0 : FoOk (foN yl yh xl xh 0) := stp_ok ⟨a, a⟩ a
  have e1 : FoOk (foN yl yh xl xh 1) := by rw [foN1]; exact stp_ok e0 b
  have e2 : FoOk (foN yl yh xl xh 2) := by rw [foN2]; exact stp_ok e1 c
  have e3 : FoOk (foN yl yh xl xh 3) := by rw [foN3]; exact stp_ok e2 d
  exact ⟨e0, e1, e2, e3⟩
def bL (yl yh xl xh : Int) : Int := if BoxO yl yh xl xh then 0 else angP (fo4 yl yh xl xh).a (fo4 yl yh xl xh).b
def bH (yl yh xl xh : Int) : Int := if BoxO yl yh xl xh then 21600000 else (if angP (fo4 yl yh xl xh).c (fo4 yl yh xl xh).d < angP (fo4 yl yh xl xh).a (fo4 yl yh xl xh).b then angP (fo4 yl yh xl xh).c (fo4 yl yh xl xh).d + 21600000 else angP (fo4 yl yh xl xh).c (fo4 yl yh xl xh).d) + (if exaP (fo4 yl yh xl xh).c (fo4 yl yh xl xh).d = true then 0 else 1)
theorem ang_range {x y : Int} : 0 ≤ angP x y ∧ angP x y < 21600000 := by
  have h := qd_range x y
  have k := bsI_in (reaB (rxI x y) (ryI x y)) 5400000 0 5400000 (by decide) (by decide)
  unfold angP lowI
  omega
theorem b_range (yl yh xl xh : Int) : (0 ≤ bL yl yh xl xh ∧ bL yl yh xl xh < 21600000) ∧ bL yl yh xl xh ≤ bH yl yh xl xh ∧ bH yl yh xl xh ≤ bL yl yh xl xh + 21600000 := by
  unfold bL bH
  have h := @ang_range (fo4 yl yh xl xh).a (fo4 yl yh xl xh).b
  have k := @ang_range (fo4 yl yh xl xh).c (fo4 yl yh xl xh).d
  split
  · omega
  · split <;> split <;> omega
section
variable {yl yh xl xh i : Int} {p : Fo} {x y : Int} (hi : foN yl yh xl xh i = stp p x y)
include hi
theorem lf11 (h1 : befI x y p.a p.b = true) (h2 : befI p.c p.d x y = true) : FoR (foA yl yh xl xh) (foB yl yh xl xh) (foC yl yh xl xh) (foD yl yh xl xh) i x y x y :=
  ⟨by unfold foA; rw [hi]; exact (if_pos h1).symm, by unfold foB; rw [hi]; exact (if_pos h1).symm, by unfold foC; rw [hi]; exact (if_pos h2).symm, by unfold foD; rw [hi]; exact (if_pos h2).symm⟩
theorem lf10 (h1 : befI x y p.a p.b = true) (h2 : befI p.c p.d x y = false) : FoR (foA yl yh xl xh) (foB yl yh xl xh) (foC yl yh xl xh) (foD yl yh xl xh) i x y p.c p.d :=
  ⟨by unfold foA; rw [hi]; exact (if_pos h1).symm, by unfold foB; rw [hi]; exact (if_pos h1).symm, by unfold foC; rw [hi]; exact (if_neg (by rw [h2]; decide)).symm, by unfold foD; rw [hi]; exact (if_neg (by rw [h2]; decide)).symm⟩
theorem lf01 (h1 : befI x y p.a p.b = false) (h2 : befI p.c p.d x y = true) : FoR (foA yl yh xl xh) (foB yl yh xl xh) (foC yl yh xl xh) (foD yl yh xl xh) i p.a p.b x y :=
  ⟨by unfold foA; rw [hi]; exact (if_neg (by rw [h1]; decide)).symm, by unfold foB; rw [hi]; exact (if_neg (by rw [h1]; decide)).symm, by unfold foC; rw [hi]; exact (if_pos h2).symm, by unfold foD; rw [hi]; exact (if_pos h2).symm⟩
theorem lf00 (h1 : befI x y p.a p.b = false) (h2 : befI p.c p.d x y = false) : FoR (foA yl yh xl xh) (foB yl yh xl xh) (foC yl yh xl xh) (foD yl yh xl xh) i p.a p.b p.c p.d :=
  ⟨by unfold foA; rw [hi]; exact (if_neg (by rw [h1]; decide)).symm, by unfold foB; rw [hi]; exact (if_neg (by rw [h1]; decide)).symm, by unfold foC; rw [hi]; exact (if_neg (by rw [h2]; decide)).symm, by unfold foD; rw [hi]; exact (if_neg (by rw [h2]; decide)).symm⟩
end
variable {Φ : World → Prop} (hst : ∀ w w', Φ w → Below w.heap.size w w' → Φ w')
include hst
theorem c_atbefore {x y z u : Int} (h : BfOk x y z u) : Ans Tryz.prog Φ 122 [wid x y, wid z u] (.bool (befI x y z u)) := by
  refine fn_by hst Sound.nil (vc_atbefore x y z u _) ?_
  obtain ⟨h1, h2, h3, h4⟩ := h
  have m : ∀ {a b : Int}, Fx2 a → Fx2 b → -9223372036854775808 ≤ a * b ∧ a * b ≤ 9223372036854775807 := by
    intro a b ⟨a0, a1⟩ ⟨b0, b1⟩
    have h : (a * b).natAbs ≤ 2147483648 * 2147483648 := by
      rw [Int.natAbs_mul]
      exact Nat.mul_le_mul (by omega) (by omega)
    omega
  have m1 := m h1 h4
  have m2 := m h2 h3
  rw [wrap_in (n := x * u) (by omega), wrap_in (n := y * z) (by omega)]
  rfl
theorem s_Be : Sound Tryz.prog Φ (ΓBe angP exaP befI) :=
  Sound.cons (by kernel_rfl) (fun args p v h hp => by unfold sFxValid at h; split at h <;> cases h; exact c_fxvalid hst _ _)
  (Sound.cons (by kernel_rfl) (fun args p v h hp => by unfold sBef at h; split at h <;> cases h; exact c_atbefore hst hp)
  (Sound.cons (by kernel_rfl) (fun args p v h hp => by unfold sAng at h; split at h <;> cases h; exact c_atangle hst hp) Sound.nil))
theorem c_atbearing {yl yh xl xh : Int} (h1 : FixV yl yh) (h2 : FixV xl xh) : Ans Tryz.prog Φ 77 [wid yl yh, wid xl xh] (pair (wid (bL yl yh xl xh) (bH yl yh xl xh)) (num 0)) := by
  refine fn_by hst (s_Be hst) (vc_atbearing yl yh xl xh angP exaP befI (foA yl yh xl xh) (foB yl yh xl xh) (foC yl yh xl xh) (foD yl yh xl xh) _) ?_
  have w1 : IntKind.i64.wrap (0 + 1) = 1 := rfl
  have w2 : IntKind.i64.wrap (1 + 1) = 2 := rfl
  have w3 : IntKind.i64.wrap (2 + 1) = 3 := rfl
  rw [w1, w2, w3]
  rw [decide_eq_true h1, decide_eq_true h2]
  refine ⟨trivial, bcase_iff.mpr ⟨fun q => absurd q (by decide), fun _ => ⟨trivial, bcase_iff.mpr ⟨fun q => absurd q (by decide), fun _ => bcase_iff.mpr ⟨fun o1 => bcase_iff.mpr ⟨fun o2 => bcase_iff.mpr ⟨fun o3 => bcase_iff.mpr ⟨fun o4 => ?_, fun o4 => ?_⟩, fun o3 => ?_⟩, fun o2 => ?_⟩, fun o1 => ?_⟩⟩⟩⟩⟩
  · have o : BoxO yl yh xl xh := ⟨of_decide_eq_true o1, of_decide_eq_true o2, of_decide_eq_true o3, of_decide_eq_true o4⟩
    unfold bL bH
    rw [if_pos o, if_pos o]
  all_goals
    have o : ¬ BoxO yl yh xl xh := by
      unfold BoxO
      simp only [decide_eq_true_eq, decide_eq_false_iff_not] at *
      omega
    obtain ⟨k0, k1, k2, k3⟩ := box_corners h1 h2 o
    obtain ⟨f0, f1, f2, f3⟩ := fo_ok h1 h2 o
    have bo : ∀ {a b c d : Int}, CnOk a b → CnOk c d → BfOk a b c d := fun h k => ⟨h.1, h.2.1, k.1, k.2.1⟩
    refine ⟨?_, bo k0 k0, bcase_iff.mpr ⟨fun p => ⟨bo k0 k0, bcase_iff.mpr ⟨fun q => ⟨⟨xl, yl, xl, yl⟩, ?_, lf11 (p := ⟨xl, yl, xl, yl⟩) rfl p q⟩, fun q => ⟨⟨xl, yl, xl, yl⟩, ?_, lf10 (p := ⟨xl, yl, xl, yl⟩) rfl p q⟩⟩⟩, fun p => ⟨bo k0 k0, bcase_iff.mpr ⟨fun q => ⟨⟨xl, yl, xl, yl⟩, ?_, lf01 (p := ⟨xl, yl, xl, yl⟩) rfl p q⟩, fun q => ⟨⟨xl, yl, xl, yl⟩, ?_, lf00 (p := ⟨xl, yl, xl, yl⟩) rfl p q⟩⟩⟩⟩⟩
    · rintro ⟨a, b, c, d⟩ ⟨ea, eb, ec, ed⟩
      dsimp only at ea eb ec ed
      subst ea eb ec ed
      dsimp only
      refine ⟨?_, bo k1 f0.1, bcase_iff.mpr ⟨fun p => ⟨bo f0.2 k1, bcase_iff.mpr ⟨fun q => ⟨⟨xl, yh, xl, yh⟩, ?_, lf11 (p := foN yl yh xl xh 0) (x := xl) (y := yh) (foN1 yl yh xl xh) p q⟩, fun q => ⟨⟨xl, yh, (foN yl yh xl xh 0).c, (foN yl yh xl xh 0).d⟩, ?_, lf10 (p := foN yl yh xl xh 0) (x := xl) (y := yh) (foN1 yl yh xl xh) p q⟩⟩⟩, fun p => ⟨bo f0.2 k1, bcase_iff.mpr ⟨fun q => ⟨⟨(foN yl yh xl xh 0).a, (foN yl yh xl xh 0).b, xl, yh⟩, ?_, lf01 (p := foN yl yh xl xh 0) (x := xl) (y := yh) (foN1 yl yh xl xh) p q⟩, fun q => ⟨⟨(foN yl yh xl xh 0).a, (foN yl yh xl xh 0).b, (foN yl yh xl xh 0).c, (foN yl yh xl xh 0).d⟩, ?_, lf00 (p := foN yl yh xl xh 0) (x := xl) (y := yh) (foN1 yl yh xl xh) p q⟩⟩⟩⟩⟩
      · rintro ⟨a, b, c, d⟩ ⟨ea, eb, ec, ed⟩
        dsimp only at ea eb ec ed
        subst ea eb ec ed
        dsimp only
        refine ⟨?_, bo k2 f1.1, bcase_iff.mpr ⟨fun p => ⟨bo f1.2 k2, bcase_iff.mpr ⟨fun q => ⟨⟨xh, yl, xh, yl⟩, ?_, lf11 (p := foN yl yh xl xh 1) (x := xh) (y := yl) (foN2 yl yh xl xh) p q⟩, fun q => ⟨⟨xh, yl, (foN yl yh xl xh 1).c, (foN yl yh xl xh 1).d⟩, ?_, lf10 (p := foN yl yh xl xh 1) (x := xh) (y := yl) (foN2 yl yh xl xh) p q⟩⟩⟩, fun p => ⟨bo f1.2 k2, bcase_iff.mpr ⟨fun q => ⟨⟨(foN yl yh xl xh 1).a, (foN yl yh xl xh 1).b, xh, yl⟩, ?_, lf01 (p := foN yl yh xl xh 1) (x := xh) (y := yl) (foN2 yl yh xl xh) p q⟩, fun q => ⟨⟨(foN yl yh xl xh 1).a, (foN yl yh xl xh 1).b, (foN yl yh xl xh 1).c, (foN yl yh xl xh 1).d⟩, ?_, lf00 (p := foN yl yh xl xh 1) (x := xh) (y := yl) (foN2 yl yh xl xh) p q⟩⟩⟩⟩⟩
        · rintro ⟨a, b, c, d⟩ ⟨ea, eb, ec, ed⟩
          dsimp only at ea eb ec ed
          subst ea eb ec ed
          dsimp only
          refine ⟨?_, bo k3 f2.1, bcase_iff.mpr ⟨fun p => ⟨bo f2.2 k3, bcase_iff.mpr ⟨fun q => ⟨⟨xh, yh, xh, yh⟩, ?_, lf11 (p := foN yl yh xl xh 2) (x := xh) (y := yh) (foN3 yl yh xl xh) p q⟩, fun q => ⟨⟨xh, yh, (foN yl yh xl xh 2).c, (foN yl yh xl xh 2).d⟩, ?_, lf10 (p := foN yl yh xl xh 2) (x := xh) (y := yh) (foN3 yl yh xl xh) p q⟩⟩⟩, fun p => ⟨bo f2.2 k3, bcase_iff.mpr ⟨fun q => ⟨⟨(foN yl yh xl xh 2).a, (foN yl yh xl xh 2).b, xh, yh⟩, ?_, lf01 (p := foN yl yh xl xh 2) (x := xh) (y := yh) (foN3 yl yh xl xh) p q⟩, fun q => ⟨⟨(foN yl yh xl xh 2).a, (foN yl yh xl xh 2).b, (foN yl yh xl xh 2).c, (foN yl yh xl xh 2).d⟩, ?_, lf00 (p := foN yl yh xl xh 2) (x := xh) (y := yh) (foN3 yl yh xl xh) p q⟩⟩⟩⟩⟩
          · rintro ⟨a, b, c, d⟩ ⟨ea, eb, ec, ed⟩
            dsimp only at ea eb ec ed
            subst ea eb ec ed
            dsimp only
            have r1 := @ang_range (fo4 yl yh xl xh).a (fo4 yl yh xl xh).b
            have r2 := @ang_range (fo4 yl yh xl xh).c (fo4 yl yh xl xh).d
            refine ⟨f3.1.pl, f3.2.pl, ?_⟩
            show bcase (decide (angP (fo4 yl yh xl xh).c (fo4 yl yh xl xh).d < angP (fo4 yl yh xl xh).a (fo4 yl yh xl xh).b)) (bcase (!exaP (fo4 yl yh xl xh).c (fo4 yl yh xl xh).d) (Value.tuple #[wid (angP (fo4 yl yh xl xh).a (fo4 yl yh xl xh).b) (IntKind.i64.wrap (IntKind.i64.wrap (angP (fo4 yl yh xl xh).c (fo4 yl yh xl xh).d + 21600000) + 1)), num 0] = _) (Value.tuple #[wid (angP (fo4 yl yh xl xh).a (fo4 yl yh xl xh).b) (IntKind.i64.wrap (angP (fo4 yl yh xl xh).c (fo4 yl yh xl xh).d + 21600000)), num 0] = _)) (bcase (!exaP (fo4 yl yh xl xh).c (fo4 yl yh xl xh).d) (Value.tuple #[wid (angP (fo4 yl yh xl xh).a (fo4 yl yh xl xh).b) (IntKind.i64.wrap (angP (fo4 yl yh xl xh).c (fo4 yl yh xl xh).d + 1)), num 0] = _) (Value.tuple #[wid (angP (fo4 yl yh xl xh).a (fo4 yl yh xl xh).b) (angP (fo4 yl yh xl xh).c (fo4 yl yh xl xh).d), num 0] = _))
            unfold bL bH
            rw [if_neg o, if_neg o]
            generalize angP (fo4 yl yh xl xh).a (fo4 yl yh xl xh).b = A at *
            generalize angP (fo4 yl yh xl xh).c (fo4 yl yh xl xh).d = C at *
            rw [wrap_in (n := C + 21600000) (by omega), wrap_in (n := C + 21600000 + 1) (by omega), wrap_in (n := C + 1) (by omega)]
            refine bcase_iff.mpr ⟨fun u => bcase_iff.mpr ⟨fun v => ?_, fun v => ?_⟩, fun u => bcase_iff.mpr ⟨fun v => ?_, fun v => ?_⟩⟩
            all_goals simp only [Bool.not_eq_true', Bool.not_eq_false'] at v
            · rw [if_pos (of_decide_eq_true u), if_neg (by rw [v]; decide)]
            · rw [if_pos (of_decide_eq_true u), if_pos v, Int.add_zero]
            · rw [if_neg (of_decide_eq_false u), if_neg (by rw [v]; decide)]
            · rw [if_neg (of_decide_eq_false u), if_pos v, Int.add_zero]
          all_goals exact ⟨rfl, rfl, rfl, rfl, rfl, rfl, rfl, rfl, rfl, rfl, rfl, rfl, rfl, rfl, rfl, rfl, rfl, rfl, rfl, rfl, rfl, trivial⟩
        all_goals exact ⟨rfl, rfl, rfl, rfl, rfl, rfl, rfl, rfl, rfl, rfl, rfl, rfl, rfl, rfl, rfl, rfl, rfl, rfl, rfl, rfl, rfl, trivial⟩
      all_goals exact ⟨rfl, rfl, rfl, rfl, rfl, rfl, rfl, rfl, rfl, rfl, rfl, rfl, rfl, rfl, rfl, rfl, rfl, rfl, rfl, rfl, rfl, trivial⟩
    all_goals exact ⟨rfl, rfl, rfl, rfl, rfl, rfl, rfl, rfl, rfl, rfl, rfl, rfl, rfl, rfl, rfl, rfl, rfl, rfl, rfl, rfl, rfl, trivial⟩
end Go.Proofs.YtjdcicjhpegphaaGreat
/- The sine grows in the first quarter, by at most 2500 of 2^-30 from one unit to the next. -/
namespace Go.Proofs.YtjdcicjhpegphaaGreat
open Go Go.Abs Go.RowKit Go.Sine
theorem small_e {y : Rat} (hy : 0 ≤ y) (h4 : 1000 * y ≤ 1) (hp : 1 ≤ 2 ^ 22 * y) : 0 ≤ e 2 y ∧ 2000 * e 2 y ≤ y ∧ 1 ≤ 2 ^ 45 * e 2 y ∧ 0 ≤ e 3 y ∧ 3000 * e 3 y ≤ e 2 y ∧ 0 ≤ e 4 y ∧ 4000 * e 4 y ≤ e 3 y ∧ 0 ≤ e 5 y ∧ 0 ≤ e 6 y ∧ 2 * e 6 y ≤ e 4 y ∧ 2 * e 5 y ≤ e 3 y := by
  have y1 : y ≤ 1 := by grind
  have n1 := e_nonneg hy 1; have n2 := e_nonneg hy 2; have n3 := e_nonneg hy 3; have n4 := e_nonneg hy 4; have n5 := e_nonneg hy 5; have n6 := e_nonneg hy 6
  have l5 := e_half hy y1 3; have l6 := e_half hy y1 4
  have s2 := e_succ 1 y; have s3 := e_succ 2 y; have s4 := e_succ 3 y
  have c1 : ((1 : Nat) : Rat) = 1 := rfl
  have c2 : ((2 : Nat) : Rat) = 2 := rfl
  have c3 : ((3 : Nat) : Rat) = 3 := rfl
  rw [c1] at s2
  rw [c2] at s3
  rw [c3] at s4
  simp only [Nat.reduceAdd] at s2 s3 s4 l5 l6
  have e1 := e_one y
  rw [e1] at s2
  have m2 := Rat.mul_le_mul_of_nonneg_right h4 hy
  have m3 := Rat.mul_le_mul_of_nonneg_right h4 n2
  have m4 := Rat.mul_le_mul_of_nonneg_right h4 n3
  have q1 := Rat.mul_le_mul_of_nonneg_right hp hy
  refine ⟨n2, by grind, by grind, n3, by grind, n4, by grind, n5, n6, l6, l5⟩
theorem ga_si {y : Rat} (hy : 0 ≤ y) (h4 : 1000 * y ≤ 1) (hp : 1 ≤ 2 ^ 22 * y) : -y ≤ 1000 * (ga y - 1) ∧ 1000 * (ga y - 1) ≤ -999 * e 2 y ∧ 999 * y ≤ 1000 * si y := by
  obtain ⟨a, b, c, d, e', f, g, h, i, j, k⟩ := small_e hy h4 hp
  have e1 := e_one y
  unfold ga si
  refine ⟨by grind, by grind, by grind⟩
theorem sn_up {x y : Rat} (hx : 0 ≤ x) (hy : 0 ≤ y) (h4 : 1000 * y ≤ 1) (hp : 1 ≤ 2 ^ 22 * y) (h1 : x + y ≤ 1) : sn x ≤ sn (x + y) := by
  have a := (sn_add hx hy h1).1
  have s := sn_le hx (by grind)
  have ch := cs_half hx (by grind)
  obtain ⟨_, b, c, _, e', _, g, _, _, j, _⟩ := small_e hy h4 hp
  obtain ⟨g1, g2, g3⟩ := ga_si hy h4 hp
  have m1 := mul_abs (a := 1000 * (ga y - 1)) (d := y) (t := sn x) g1 (by grind) s.1 (by grind) hy
  have m2 := Rat.mul_le_mul_of_nonneg_right ch (show 0 ≤ si y by grind)
  generalize e 6 y = e6 at *
  generalize e 4 y = e4 at *
  generalize e 3 y = e3 at *
  generalize e 2 y = e2 at *
  generalize si y = S at *
  generalize ga y = G at *
  grind
theorem cs_down {x y : Rat} (hx : 0 ≤ x) (hy : 0 ≤ y) (h4 : 1000 * y ≤ 1) (hp : 1 ≤ 2 ^ 22 * y) (h1 : x + y ≤ 1) : 1 ≤ 2 ^ 48 * (cs x - cs (x + y)) := by
  have a := (cs_add hx hy h1).2
  have s := sn_le hx (by grind)
  have ch := cs_half hx (by grind)
  obtain ⟨n2, b, c, _, e', _, g, _, _, j, _⟩ := small_e hy h4 hp
  obtain ⟨g1, g2, g3⟩ := ga_si hy h4 hp
  have m1 := Rat.mul_nonneg s.1 (show 0 ≤ si y by grind)
  have m2 := Rat.mul_le_mul_of_nonneg_right ch (show 0 ≤ 1000 * (1 - ga y) by grind)
  generalize e 6 y = e6 at *
  generalize e 4 y = e4 at *
  generalize e 3 y = e3 at *
  generalize e 2 y = e2 at *
  generalize si y = S at *
  generalize ga y = G at *
  grind
theorem an_one : (0 ≤ an 1 ∧ 1000 * an 1 ≤ 1) ∧ 1 ≤ 2 ^ 22 * an 1 ∧ 2 ^ 30 * (8 * an 1) ≤ 2499 := by
  refine ⟨⟨an_nonneg 1, an_small (by decide)⟩, an_pos (by decide), ?_⟩
  unfold an
  decide +kernel
theorem mid45 : -436 ≤ 2 ^ 62 * (cs (an 2700000) - sn (an 2700000)) ∧ 2 ^ 62 * (cs (an 2700000) - sn (an 2700000)) ≤ 436 := by
  have s := qs_err (r := 2700000) (Nat.le_refl _)
  have c := qc_err (r := 2700000) (Nat.le_refl _)
  obtain ⟨n1, n2⟩ := near45
  have n1 := i_le n1
  have n2 := i_le n2
  rw [Rat.intCast_sub] at n1 n2
  have c1 : ((-20 : Int) : Rat) = -20 := rfl
  have c2 : ((20 : Int) : Rat) = 20 := rfl
  rw [c1] at n1
  rw [c2] at n2
  generalize sn (an 2700000) = S at *
  generalize cs (an 2700000) = C at *
  generalize ((qs 2700000 : Int) : Rat) = u at *
  generalize ((qc 2700000 : Int) : Rat) = v at *
  constructor <;> grind
theorem tQ_step {p : Nat} (h : p + 1 ≤ 5400000) : tQ p ≤ tQ (p + 1) ∧ 2 ^ 30 * (tQ (p + 1) - tQ p) ≤ 2500 := by
  obtain ⟨⟨y0, y4⟩, yp, y8⟩ := an_one
  rcases (show p + 1 ≤ 2700000 ∨ p = 2700000 ∨ 2700001 ≤ p by omega) with k | k | k
  · have l := le1 (an_le k)
    unfold tQ
    rw [if_pos (by omega), if_pos (by omega), an_add] at *
    have x0 := an_nonneg p
    have u := sn_up x0 y0 y4 yp l
    have v := (sn_lip x0 y0 l).2
    generalize sn (an p + an 1) = S at *
    generalize sn (an p) = C at *
    generalize an 1 = y at *
    clear l x0
    exact ⟨u, by grind⟩
  · subst k
    have e : tQ (2700000 + 1) = cs (an 2699999) := by unfold tQ; rw [if_neg (by decide)]
    have e' : tQ 2700000 = sn (an 2700000) := by unfold tQ; rw [if_pos (by decide)]
    have ea : an 2700000 = an 2699999 + an 1 := an_add 2699999 1
    have m := mid45
    rw [e, e']
    have l := le1 (an_le (r := 2700000) (by decide))
    rw [ea] at l m ⊢
    have x0 := an_nonneg 2699999
    have u := cs_down x0 y0 y4 yp l
    have v := (cs_lip x0 y0 l).1
    generalize sn (an 2699999 + an 1) = S at *
    generalize cs (an 2699999 + an 1) = T at *
    generalize cs (an 2699999) = C at *
    generalize an 1 = y at *
    clear l x0
    constructor <;> grind
  · obtain ⟨q, hq⟩ : ∃ q, p + q + 1 = 5400000 := ⟨5400000 - (p + 1), by omega⟩
    have e : tQ (p + 1) = cs (an q) := by unfold tQ; rw [if_neg (by omega), show 5400000 - (p + 1) = q by omega]
    have e' : tQ p = cs (an q + an 1) := by unfold tQ; rw [if_neg (by omega), show 5400000 - p = q + 1 by omega, an_add]
    have l := le1 (an_le (r := q + 1) (by omega))
    rw [e, e']
    rw [an_add] at l
    have x0 := an_nonneg q
    have u := cs_down x0 y0 y4 yp l
    have v := (cs_lip x0 y0 l).1
    generalize cs (an q + an 1) = T at *
    generalize cs (an q) = C at *
    generalize an 1 = y at *
    clear l x0 e e' hq k h
    constructor <;> grind
theorem fl_step {m n : Int} {S T : Rat} (h : IsFl m S) (k : IsFl n T) (st : S ≤ T ∧ 2 ^ 30 * (T - S) ≤ 2500) : m ≤ n ∧ n ≤ m + 2500 := by
  unfold IsFl at h k
  have a : (m : Rat) < ((n + 1 : Int) : Rat) := by rw [Rat.intCast_add, z1]; grind
  have b : (n : Rat) < ((m + 2501 : Int) : Rat) := by
    rw [Rat.intCast_add, show ((2501 : Int) : Rat) = 2501 from rfl]; grind
  have a := Rat.intCast_lt_intCast.mp a
  have b := Rat.intCast_lt_intCast.mp b
  omega
theorem sinP_spots : (sinP 0 = 0 ∧ sinP 1 = 312) ∧ (sinP 1799999 = 536870641 ∧ sinP 1800000 = 536870912 ∧ sinP 1800001 = 536871182) ∧ sinP 5399999 = 1073741823 ∧ sinP 5400000 = 1073741824 := by
  decide +kernel
theorem up_spots : (upI 0 = 0 ∧ upI 1 = 313) ∧ (upI 1799999 = 536870642 ∧ upI 1800000 = 536870912 ∧ upI 1800001 = 536871183) ∧ upI 5399999 = 1073741824 ∧ upI 5400000 = 1073741824 := by
  obtain ⟨⟨a, b⟩, ⟨c, d, e⟩, f, g⟩ := sinP_spots
  unfold upI
  rw [a, b, c, d, e, f, g]
  decide
theorem sin_step {p : Int} (h0 : 0 ≤ p) (h1 : p < 5400000) : (sinP p ≤ sinP (p + 1) ∧ sinP (p + 1) ≤ sinP p + 2500) ∧ upI p ≤ upI (p + 1) ∧ upI (p + 1) ≤ upI p + 2500 := by
  obtain ⟨⟨a, b⟩, ⟨c, d, e⟩, f, g⟩ := sinP_spots
  obtain ⟨⟨a', b'⟩, ⟨c', d', e'⟩, f', g'⟩ := up_spots
  by_cases k : p = 0 ∨ p = 1799999 ∨ p = 1800000 ∨ p = 5399999
  · rcases k with rfl | rfl | rfl | rfl
    · rw [show (0 : Int) + 1 = 1 from rfl]; omega
    · rw [show (1799999 : Int) + 1 = 1800000 from rfl]; omega
    · rw [show (1800000 : Int) + 1 = 1800001 from rfl]; omega
    · rw [show (5399999 : Int) + 1 = 5400000 from rfl]; omega
  · obtain ⟨q, rfl⟩ := Int.eq_ofNat_of_zero_le h0
    have x1 : exB ((q : Nat) : Int) = false := by
      unfold exB
      simp only [Bool.or_eq_false_iff, beq_eq_false_iff_ne]
      omega
    have x2 : exB ((q + 1 : Nat) : Int) = false := by
      unfold exB
      simp only [Bool.or_eq_false_iff, beq_eq_false_iff_ne]
      omega
    have s := fl_step (far_tQ x1 (by omega)).2 (far_tQ x2 (by omega)).2 (tQ_step (by omega))
    have e2 : ((q + 1 : Nat) : Int) = (q : Int) + 1 := by omega
    rw [e2] at s x2
    refine ⟨s, ?_⟩
    unfold upI
    rw [x1, x2, if_neg (by decide), if_neg (by decide)]
    omega
theorem sin_mono {p : Int} (h0 : 0 ≤ p) : ∀ k : Nat, p + k ≤ 5400000 → sinP p ≤ sinP (p + k) ∧ upI p ≤ upI (p + k)
  | 0, _ => by
    have : p + ((0 : Nat) : Int) = p := by omega
    rw [this]
    exact ⟨Int.le_refl _, Int.le_refl _⟩
  | k + 1, h => by
    have i := sin_mono h0 k (by omega)
    have s := sin_step (p := p + k) (by omega) (by omega)
    have : p + ((k + 1 : Nat) : Int) = p + k + 1 := by omega
    rw [this]
    omega
theorem sin_le {p q : Int} (h0 : 0 ≤ p) (h : p ≤ q) (h1 : q ≤ 5400000) : sinP p ≤ sinP q ∧ upI p ≤ upI q := by
  obtain ⟨k, rfl⟩ : ∃ k : Nat, q = p + k := ⟨(q - p).toNat, by omega⟩
  exact sin_mono h0 k h1
def cL (a b : Int) : Int := encL (a + 5400000) (b + 5400000)
def cH (a b : Int) : Int := encH (a + 5400000) (b + 5400000)
end Go.Proofs.YtjdcicjhpegphaaGreat
/- The arcsine: what the functions answer. -/
namespace Go.Proofs.YtjdcicjhpegphaaGreat
open Go Go.Abs Go.RowKit Go.Sine
def belI (n v : Int) : Int := if hiE n ≤ v then (if v = loI n then 0 else -1) else 1
def sBel (bl : Int → Int → Int) : FSpec := fun | [.int .i64 n, .int .i64 v] => some (Q41 n, num (bl n v)) | _ => none
def asnG (v n : Int) : Bool := decide (hiE n ≤ v)
def asnI (v : Int) : Int := bsI (asnG v) (-5400000) 5400001
structure AsR (f : Int → Bool) (lo hi : Int) : Prop where
  l : -5400000 ≤ lo
  h : hi ≤ 5400001
  lt : lo < hi
  eq : bsI f lo hi = bsI f (-5400000) 5400001
def annAs (f : Int → Bool) : Ann where
  σ := Int × Int
  st := fun s v => ⟨lset (lset (keepA s 21 [0, 2]) 3 (.v (.int .i64 v.1))) 4 (.v (.int .i64 v.2)), s.hp⟩
  inv := fun _ v => AsR f v.1 v.2
  μ := fun _ v => (v.2 - v.1).toNat
def ΓAs1 (bl : Int → Int → Int) : List (FuncId × CSpec) := [(156, .v (sBel bl))]
def AAs1 (f : Int → Bool) : FuncId → List (Nat × LoopBy) := fun _ => [(0, .ann (annAs f))]
def sAsn1 (an : Int → Int) : FSpec := fun | [.int .i64 v] => some (True, num (an v)) | _ => none
def sAtPart : FSpec := fun | [.agg ⟨[.int .i64 a, .int .i64 b]⟩, .int .i64 l, .int .i64 h] => some (True, pair (wid (max a l) (min b h)) (.bool (decide (max a l ≤ min b h)))) | _ => none
def ΓAs2 (an : Int → Int) : List (FuncId × CSpec) := [(91, .v sFxValid), (92, .v sAtPart), (138, .v (sAsn1 an))]
end Go.Proofs.YtjdcicjhpegphaaGreat
/- The arcsine: what the functions ask. -/
namespace Go.Proofs.YtjdcicjhpegphaaGreat
open Go Go.Abs Go.RowKit Go.Sine
theorem vc_trbelow (n v : Int) (K : Value → Prop) : callsX Tryz.prog ([(148, .v sEnds)]) (noAnn) 156 [num n, num v] K = (
 Q41 n ∧
 bcase (decide (v ≥ hiE n))
 (bcase (decide (v > loI n)) (K (Value.int IntKind.i64 (-1)))
 (bcase (decide (v ≤ loI n)) (bcase (decide (v < hiE n)) (K (Value.int IntKind.i64 1)) (bcase (v == loI n) (K (Value.int IntKind.i64 0)) (bcase (decide (v < loI n)) (K (Value.int IntKind.i64 1)) (K (Value.int IntKind.i64 (-1)))))) (bcase (v == loI n) (K (Value.int IntKind.i64 0)) (bcase (decide (v < loI n)) (K (Value.int IntKind.i64 1)) (K (Value.int IntKind.i64 (-1)))))))
 (bcase (decide (v ≤ loI n)) (bcase (decide (v < hiE n)) (K (Value.int IntKind.i64 1)) (bcase (v == loI n) (K (Value.int IntKind.i64 0)) (bcase (decide (v < loI n)) (K (Value.int IntKind.i64 1)) (K (Value.int IntKind.i64 (-1)))))) (bcase (v == loI n) (K (Value.int IntKind.i64 0)) (bcase (decide (v < loI n)) (K (Value.int IntKind.i64 1)) (K (Value.int IntKind.i64 (-1))))))) := by kernel_rfl
theorem vc_atasin1 (v : Int) (bl : Int → Int → Int) (f : Int → Bool) (K : Value → Prop) : callsX Tryz.prog (ΓAs1 bl) (AAs1 f) 138 [num v] K = (
 ∃ (s : Int × Int),
 (v = v ∧ Int.ofNat 0 = 0 ∧ -5400000 = s.fst ∧ 5400001 = s.snd ∧ True) ∧
 AsR f s.fst s.snd ∧
 ∀ (s : Int × Int),
 AsR f s.fst s.snd →
 bcase (decide (IntKind.i64.wrap (s.snd - s.fst) > 1))
 (Q41 ((IntKind.i64.wrap (s.fst + s.snd)).fdiv (2 ^ 1)) ∧
 bcase (decide (bl ((IntKind.i64.wrap (s.fst + s.snd)).fdiv (2 ^ min (Int.toNat 1) IntKind.i64.bits)) v ≤ 0)) (∃ (s_1 : Int × Int), (v = v ∧ Int.ofNat 0 = 0 ∧ (IntKind.i64.wrap (s.fst + s.snd)).fdiv (2 ^ 1) = s_1.fst ∧ s.snd = s_1.snd ∧ True) ∧ AsR f s_1.fst s_1.snd ∧ (s_1.snd - s_1.fst).toNat < (s.snd - s.fst).toNat)
 (∃ (s_1 : Int × Int), (v = v ∧ Int.ofNat 0 = 0 ∧ s.fst = s_1.fst ∧ (IntKind.i64.wrap (s.fst + s.snd)).fdiv (2 ^ 1) = s_1.snd ∧ True) ∧ AsR f s_1.fst s_1.snd ∧ (s_1.snd - s_1.fst).toNat < (s.snd - s.fst).toNat))
 (K (Value.int IntKind.i64 s.fst))) := by kernel_rfl
theorem vc_atpart (a b l h : Int) (K : Value → Prop) : callsX Tryz.prog ([]) (noAnn) 92 [wid a b, num l, num h] K = (
 K (Value.tuple #[Value.agg #[Value.int IntKind.i64 (if l > a then l else a), Value.int IntKind.i64 (if h < b then h else b)], Value.bool (decide ((if l > a then l else a) ≤ if h < b then h else b))])) := by kernel_rfl
theorem vc_atasin (a b : Int) (an : Int → Int) (K : Value → Prop) : callsX Tryz.prog (ΓAs2 an) (noAnn) 110 [wid a b] K = (
 True ∧
 bcase (!decide (FixV a b)) (K (Value.tuple #[Value.agg #[Value.int IntKind.i64 0, Value.int IntKind.i64 0], Value.int IntKind.i64 1]))
 (True ∧ bcase (!decide (max a (-1073741824) ≤ min b 1073741824)) (K (Value.tuple #[Value.agg #[Value.int IntKind.i64 0, Value.int IntKind.i64 0], Value.int IntKind.i64 2])) (True ∧ True ∧ K (Value.tuple #[Value.agg #[Value.int IntKind.i64 (an (max a (-1073741824))), Value.int IntKind.i64 (IntKind.i64.wrap (0 - an (IntKind.i64.wrap (0 - min b 1073741824))))], Value.int IntKind.i64 0])))) := by kernel_rfl
end Go.Proofs.YtjdcicjhpegphaaGreat
/- The arcsine: contracts. -/
namespace Go.Proofs.YtjdcicjhpegphaaGreat
open Go Go.Abs Go.RowKit Go.Sine
theorem bel_g (n v : Int) : decide (belI n v ≤ 0) = asnG v n := by
  unfold belI asnG
  by_cases h : hiE n ≤ v
  · rw [if_pos h, decide_eq_true h]
    split <;> rfl
  · rw [if_neg h, decide_eq_false h]
    rfl
theorem bsI_found (f : Int → Bool) : ∀ (n : Nat) (lo hi : Int), (hi - lo).toNat ≤ n → lo < hi → (f (bsI f lo hi) = true ∨ bsI f lo hi = lo) ∧ (f (bsI f lo hi + 1) = false ∨ bsI f lo hi + 1 = hi)
  | 0, lo, hi, h, k => by omega
  | n + 1, lo, hi, h, k => by
    by_cases c : hi - lo > 1
    · rw [bsI_step f c]
      split
      · rename_i q
        have := bsI_found f n ((lo + hi) / 2) hi (by omega) (by omega)
        refine ⟨?_, this.2⟩
        rcases this.1 with e | e
        · exact .inl e
        · rw [e]; exact .inl q
      · rename_i q
        have := bsI_found f n lo ((lo + hi) / 2) (by omega) (by omega)
        refine ⟨this.1, ?_⟩
        rcases this.2 with e | e
        · exact .inl e
        · rw [e]; exact .inl (by simpa using q)
    · rw [bsI_end f c]
      exact ⟨.inr rfl, .inr (by omega)⟩
theorem asn_range (v : Int) : -5400000 ≤ asnI v ∧ asnI v ≤ 5400000 := by
  have := bsI_in (asnG v) 10800001 (-5400000) 5400001 (by decide) (by decide)
  unfold asnI
  omega
theorem asn_found (v : Int) : hiE (asnI v) ≤ v ∨ asnI v = -5400000 := by
  have := (bsI_found (asnG v) 10800001 (-5400000) 5400001 (by decide) (by decide)).1
  rcases this with e | e
  · exact .inl (of_decide_eq_true e)
  · exact .inr e
variable {Φ : World → Prop} (hst : ∀ w w', Φ w → Below w.heap.size w w' → Φ w')
include hst
theorem c_trbelow {n : Int} (v : Int) (hn : Q41 n) : Ans Tryz.prog Φ 156 [num n, num v] (num (belI n v)) := by
  refine fn_by hst (Sound.cons (by kernel_rfl) (fun args p v h hp => by unfold sEnds at h; split at h <;> cases h; exact c_trbounds hst hp) Sound.nil) (vc_trbelow n v _) ?_
  have e := ends_eq n
  have e2 : hiE n = loI n ∨ hiE n = loI n + 1 := by rw [e]; split <;> omega
  have hb : ∀ {a b : Int}, a = b → Value.int IntKind.i64 a = num b := fun h => by rw [h]
  unfold belI
  simp only [bcase_iff, decide_eq_true_eq, decide_eq_false_iff_not, beq_iff_eq, beq_eq_false_iff_ne]
  refine ⟨hn, fun h1 => ⟨fun h2 => hb ?_, fun h2 => ⟨fun h3 => ⟨fun h4 => hb ?_, fun h4 => ⟨fun h5 => hb ?_, fun h5 => ⟨fun h6 => hb ?_, fun h6 => hb ?_⟩⟩⟩, fun h3 => ⟨fun h5 => hb ?_, fun h5 => ⟨fun h6 => hb ?_, fun h6 => hb ?_⟩⟩⟩⟩, fun h1 => ⟨fun h3 => ⟨fun h4 => hb ?_, fun h4 => ⟨fun h5 => hb ?_, fun h5 => ⟨fun h6 => hb ?_, fun h6 => hb ?_⟩⟩⟩, fun h3 => ⟨fun h5 => hb ?_, fun h5 => ⟨fun h6 => hb ?_, fun h6 => hb ?_⟩⟩⟩⟩
  all_goals (split <;> (try split) <;> omega)
theorem c_atasin1 (v : Int) : Ans Tryz.prog Φ 138 [num v] (num (asnI v)) := by
  refine fn_by hst (Γ := ΓAs1 belI) (Sound.cons (by kernel_rfl) (fun args p v h hp => by unfold sBel at h; split at h <;> cases h; exact c_trbelow hst _ hp) Sound.nil) (vc_atasin1 v belI (asnG v) _) ?_
  refine ⟨(-5400000, 5400001), ⟨rfl, rfl, rfl, rfl, trivial⟩, ⟨Int.le_refl _, Int.le_refl _, by decide, rfl⟩, ?_⟩
  rintro ⟨lo, hi⟩ ⟨b1, b2, b3, b4⟩
  dsimp only at *
  have w1 : IntKind.i64.wrap (hi - lo) = hi - lo := wrap_in (by omega)
  have w2 : IntKind.i64.wrap (lo + hi) = lo + hi := wrap_in (by omega)
  have w3 : (lo + hi).fdiv (2 ^ 1) = (lo + hi) / 2 := by rw [show (2 : Int) ^ 1 = 2 from rfl, Int.fdiv_eq_ediv_of_nonneg _ (by decide)]
  have w4 : (lo + hi).fdiv (2 ^ min (Int.toNat 1) IntKind.i64.bits) = (lo + hi) / 2 := w3
  rw [w1, w2, w3, w4, bel_g]
  refine bcase_iff.mpr ⟨fun q => ⟨by unfold Q41; omega, bcase_iff.mpr ⟨fun r => ?_, fun r => ?_⟩⟩, fun q => ?_⟩
  · have q : hi - lo > 1 := of_decide_eq_true q
    rw [bsI_step _ q, if_pos r] at b4
    exact ⟨((lo + hi) / 2, hi), ⟨rfl, rfl, rfl, rfl, trivial⟩, ⟨by show -5400000 ≤ (lo + hi) / 2; omega, b2, by show (lo + hi) / 2 < hi; omega, b4⟩, by show (hi - (lo + hi) / 2).toNat < (hi - lo).toNat; omega⟩
  · have q : hi - lo > 1 := of_decide_eq_true q
    rw [bsI_step _ q, if_neg (by rw [r]; decide)] at b4
    exact ⟨(lo, (lo + hi) / 2), ⟨rfl, rfl, rfl, rfl, trivial⟩, ⟨b1, by show (lo + hi) / 2 ≤ 5400001; omega, by show lo < (lo + hi) / 2; omega, b4⟩, by show ((lo + hi) / 2 - lo).toNat < (hi - lo).toNat; omega⟩
  · have q : ¬ hi - lo > 1 := of_decide_eq_false q
    rw [bsI_end _ q] at b4
    rw [b4]
    rfl
theorem c_atpart (a b l h : Int) : Ans Tryz.prog Φ 92 [wid a b, num l, num h] (pair (wid (max a l) (min b h)) (.bool (decide (max a l ≤ min b h)))) := by
  refine fn_by hst Sound.nil (vc_atpart a b l h _) ?_
  have e1 : (if l > a then l else a) = max a l := by rw [Int.max_def]; split <;> split <;> omega
  have e2 : (if h < b then h else b) = min b h := by rw [Int.min_def]; split <;> split <;> omega
  rw [e1, e2]
theorem s_As2 : Sound Tryz.prog Φ (ΓAs2 asnI) :=
  Sound.cons (by kernel_rfl) (fun args p v h hp => by unfold sFxValid at h; split at h <;> cases h; exact c_fxvalid hst _ _)
  (Sound.cons (by kernel_rfl) (fun args p v h hp => by unfold sAtPart at h; split at h <;> cases h; exact c_atpart hst _ _ _ _)
  (Sound.cons (by kernel_rfl) (fun args p v h hp => by unfold sAsn1 at h; split at h <;> cases h; exact c_atasin1 hst _) Sound.nil))
theorem c_atasin {a b : Int} (h : FixV a b) (h1 : a ≤ 1073741824) (h2 : -1073741824 ≤ b) : Ans Tryz.prog Φ 110 [wid a b] (pair (wid (asnI (max a (-1073741824))) (-asnI (-min b 1073741824))) (num 0)) := by
  refine fn_by hst (s_As2 hst) (vc_atasin a b asnI _) ?_
  have hh := h
  unfold FixV at hh
  have r := asn_range (-min b 1073741824)
  have m : max a (-1073741824) ≤ min b 1073741824 := by omega
  rw [decide_eq_true h, decide_eq_true m, wrap_in (n := 0 - min b 1073741824) (by omega), Int.zero_sub (min b 1073741824), wrap_in (n := 0 - asnI (-min b 1073741824)) (by omega), Int.zero_sub]
  exact ⟨trivial, trivial, trivial, trivial, rfl⟩
end Go.Proofs.YtjdcicjhpegphaaGreat
/- Operations that keep the first error: what they answer. -/
namespace Go.Proofs.YtjdcicjhpegphaaGreat
open Go Go.Abs Go.RowKit Go.Sine
def KpOk (b' b : Nat) (e : Int) : Prop := b' = b ∧ e = 0
def sKeep (b : Nat) : FSpec := fun | [.pointer (some ⟨b', 0, none⟩), .agg ⟨[.int .i64 lo, .int .i64 hi]⟩, .int .i64 e] => some (KpOk b' b e, wid lo hi) | _ => none
def sTrSin (sl sh : Int → Int → Int) : FSpec := fun | [.agg ⟨[.int .i64 a, .int .i64 b]⟩] => some (ArcV a b, fxOk (sl a b) (sh a b)) | _ => none
def ΓCk (b : Nat) : List (FuncId × CSpec) := [(137, .v (sKeep b)), (78, .v (sKeep b)), (76, .v (sKeep b)), (69, .v (sKeep b)), (84, .v (sMulO muL muH)), (127, .v sAddO), (121, .v sSubO), (146, .v sNegO), (85, .v (sTrSin encL encH)), (94, .v (sTrSin cL cH)), (68, .v sAnSub)]
end Go.Proofs.YtjdcicjhpegphaaGreat
/- Operations that keep the first error: what they ask. -/
namespace Go.Proofs.YtjdcicjhpegphaaGreat
open Go Go.Abs Go.RowKit Go.Sine
theorem vc_cssin (k : Nat) (a b : Int) (K : Value → Prop) : callsX Tryz.prog (ΓCk k) (noAnn) 135 [ptr k, wid a b] K = (
 ArcV a b ∧ KpOk k k 0 ∧ K (Value.agg #[Value.int IntKind.i64 (encL a b), Value.int IntKind.i64 (encH a b)])) := by kernel_rfl
theorem vc_cscos (k : Nat) (a b : Int) (K : Value → Prop) : callsX Tryz.prog (ΓCk k) (noAnn) 136 [ptr k, wid a b] K = (
 ArcV a b ∧ KpOk k k 0 ∧ K (Value.agg #[Value.int IntKind.i64 (cL a b), Value.int IntKind.i64 (cH a b)])) := by kernel_rfl
theorem vc_csmul (k : Nat) (a b c d : Int) (K : Value → Prop) : callsX Tryz.prog (ΓCk k) (noAnn) 109 [ptr k, wid a b, wid c d] K = (
 (FixO a b ∧ FixO c d) ∧ KpOk k k 0 ∧ K (Value.agg #[Value.int IntKind.i64 (muL a b c d), Value.int IntKind.i64 (muH a b c d)])) := by kernel_rfl
theorem vc_csadd (k : Nat) (a b c d : Int) (K : Value → Prop) : callsX Tryz.prog (ΓCk k) (noAnn) 108 [ptr k, wid a b, wid c d] K = (
 (FixO a b ∧ FixO c d) ∧ KpOk k k 0 ∧ K (Value.agg #[Value.int IntKind.i64 (a + c), Value.int IntKind.i64 (b + d)])) := by kernel_rfl
theorem vc_cssub (k : Nat) (a b c d : Int) (K : Value → Prop) : callsX Tryz.prog (ΓCk k) (noAnn) 120 [ptr k, wid a b, wid c d] K = (
 (FixO a b ∧ FixO c d) ∧ KpOk k k 0 ∧ K (Value.agg #[Value.int IntKind.i64 (a - d), Value.int IntKind.i64 (b - c)])) := by kernel_rfl
theorem vc_csneg (k : Nat) (a b : Int) (K : Value → Prop) : callsX Tryz.prog (ΓCk k) (noAnn) 119 [ptr k, wid a b] K = (
 FixV a b ∧ KpOk k k 0 ∧ K (Value.agg #[Value.int IntKind.i64 (-b), Value.int IntKind.i64 (-a)])) := by kernel_rfl
theorem vc_gcsin (k : Nat) (a b : Int) (K : Value → Prop) : callsX Tryz.prog (ΓCk k) (noAnn) 73 [ptr k, wid a b] K = (
 ArcV a b ∧ KpOk k k 0 ∧ K (Value.agg #[Value.int IntKind.i64 (encL a b), Value.int IntKind.i64 (encH a b)])) := by kernel_rfl
theorem vc_gccos (k : Nat) (a b : Int) (K : Value → Prop) : callsX Tryz.prog (ΓCk k) (noAnn) 74 [ptr k, wid a b] K = (
 ArcV a b ∧ KpOk k k 0 ∧ K (Value.agg #[Value.int IntKind.i64 (cL a b), Value.int IntKind.i64 (cH a b)])) := by kernel_rfl
theorem vc_gcmul (k : Nat) (a b c d : Int) (K : Value → Prop) : callsX Tryz.prog (ΓCk k) (noAnn) 72 [ptr k, wid a b, wid c d] K = (
 (FixO a b ∧ FixO c d) ∧ KpOk k k 0 ∧ K (Value.agg #[Value.int IntKind.i64 (muL a b c d), Value.int IntKind.i64 (muH a b c d)])) := by kernel_rfl
theorem vc_gcadd (k : Nat) (a b c d : Int) (K : Value → Prop) : callsX Tryz.prog (ΓCk k) (noAnn) 80 [ptr k, wid a b, wid c d] K = (
 (FixO a b ∧ FixO c d) ∧ KpOk k k 0 ∧ K (Value.agg #[Value.int IntKind.i64 (a + c), Value.int IntKind.i64 (b + d)])) := by kernel_rfl
theorem vc_gcsub (k : Nat) (a b c d : Int) (K : Value → Prop) : callsX Tryz.prog (ΓCk k) (noAnn) 75 [ptr k, wid a b, wid c d] K = (
 (FixO a b ∧ FixO c d) ∧ KpOk k k 0 ∧ K (Value.agg #[Value.int IntKind.i64 (a - d), Value.int IntKind.i64 (b - c)])) := by kernel_rfl
end Go.Proofs.YtjdcicjhpegphaaGreat
/- Operations that keep the first error: contracts. -/
namespace Go.Proofs.YtjdcicjhpegphaaGreat
open Go Go.Abs Go.RowKit Go.Sine
variable {Φ : World → Prop} (hst : ∀ w w', Φ w → Below w.heap.size w w' → Φ w')
include hst
theorem t_sin {a b : Int} (h : ArcV a b) : Ans Tryz.prog Φ 85 [wid a b] (fxOk (encL a b) (encH a b)) := by
  have := c_trSin hst a b
  rw [if_pos h] at this
  exact this
theorem t_cos {a b : Int} (h : ArcV a b) : Ans Tryz.prog Φ 94 [wid a b] (fxOk (cL a b) (cH a b)) := by
  have := c_trCos hst a b
  rw [if_pos h] at this
  exact this
theorem s_Ck (k : Nat) (T : TypeId) : Sound Tryz.prog (Zc Φ k T) (ΓCk k) :=
  Sound.cons (by kernel_rfl) (fun args p v h hp => by unfold sKeep at h; split at h <;> cases h; obtain ⟨h1, h2⟩ := hp; subst h1 h2; exact c_keep _ _)
  (Sound.cons (by kernel_rfl) (fun args p v h hp => by unfold sKeep at h; split at h <;> cases h; obtain ⟨h1, h2⟩ := hp; subst h1 h2; exact c_numb _ _)
  (Sound.cons (by kernel_rfl) (fun args p v h hp => by unfold sKeep at h; split at h <;> cases h; obtain ⟨h1, h2⟩ := hp; subst h1 h2; exact c_arcg _ _)
  (Sound.cons (by kernel_rfl) (fun args p v h hp => by unfold sKeep at h; split at h <;> cases h; obtain ⟨h1, h2⟩ := hp; subst h1 h2; exact c_kept _ _)
  (Sound.cons (by kernel_rfl) (fun args p v h hp => by unfold sMulO at h; split at h <;> cases h; exact c_fxmul (zc_below hst k T) hp)
  (Sound.cons (by kernel_rfl) (fun args p v h hp => by unfold sAddO at h; split at h <;> cases h; exact c_fxadd (zc_below hst k T) hp)
  (Sound.cons (by kernel_rfl) (fun args p v h hp => by unfold sSubO at h; split at h <;> cases h; exact c_fxsub (zc_below hst k T) hp)
  (Sound.cons (by kernel_rfl) (fun args p v h hp => by unfold sNegO at h; split at h <;> cases h; exact c_fxneg (zc_below hst k T) hp)
  (Sound.cons (by kernel_rfl) (fun args p v h hp => by unfold sTrSin at h; split at h <;> cases h; exact t_sin (zc_below hst k T) hp)
  (Sound.cons (by kernel_rfl) (fun args p v h hp => by unfold sTrSin at h; split at h <;> cases h; exact t_cos (zc_below hst k T) hp)
  (Sound.cons (by kernel_rfl) (fun args p v h hp => by unfold sAnSub at h; split at h <;> cases h; exact c_ansub (zc_below hst k T) hp) Sound.nil))))))))))
theorem m_cssin {k : Nat} {T : TypeId} {a b : Int} (h : ArcV a b) : Ans Tryz.prog (Zc Φ k T) 135 [ptr k, wid a b] (wid (encL a b) (encH a b)) :=
  fn_by (zc_below hst k T) (s_Ck hst k T) (vc_cssin k a b _) ⟨h, ⟨rfl, rfl⟩, rfl⟩
theorem m_cscos {k : Nat} {T : TypeId} {a b : Int} (h : ArcV a b) : Ans Tryz.prog (Zc Φ k T) 136 [ptr k, wid a b] (wid (cL a b) (cH a b)) :=
  fn_by (zc_below hst k T) (s_Ck hst k T) (vc_cscos k a b _) ⟨h, ⟨rfl, rfl⟩, rfl⟩
theorem m_csmul {k : Nat} {T : TypeId} {a b c d : Int} (h : FixO a b ∧ FixO c d) : Ans Tryz.prog (Zc Φ k T) 109 [ptr k, wid a b, wid c d] (wid (muL a b c d) (muH a b c d)) :=
  fn_by (zc_below hst k T) (s_Ck hst k T) (vc_csmul k a b c d _) ⟨h, ⟨rfl, rfl⟩, rfl⟩
theorem m_csadd {k : Nat} {T : TypeId} {a b c d : Int} (h : FixO a b ∧ FixO c d) : Ans Tryz.prog (Zc Φ k T) 108 [ptr k, wid a b, wid c d] (wid (a + c) (b + d)) :=
  fn_by (zc_below hst k T) (s_Ck hst k T) (vc_csadd k a b c d _) ⟨h, ⟨rfl, rfl⟩, rfl⟩
theorem m_cssub {k : Nat} {T : TypeId} {a b c d : Int} (h : FixO a b ∧ FixO c d) : Ans Tryz.prog (Zc Φ k T) 120 [ptr k, wid a b, wid c d] (wid (a - d) (b - c)) :=
  fn_by (zc_below hst k T) (s_Ck hst k T) (vc_cssub k a b c d _) ⟨h, ⟨rfl, rfl⟩, rfl⟩
theorem m_csneg {k : Nat} {T : TypeId} {a b : Int} (h : FixV a b) : Ans Tryz.prog (Zc Φ k T) 119 [ptr k, wid a b] (wid (-b) (-a)) :=
  fn_by (zc_below hst k T) (s_Ck hst k T) (vc_csneg k a b _) ⟨h, ⟨rfl, rfl⟩, rfl⟩
theorem m_gcsin {k : Nat} {T : TypeId} {a b : Int} (h : ArcV a b) : Ans Tryz.prog (Zc Φ k T) 73 [ptr k, wid a b] (wid (encL a b) (encH a b)) :=
  fn_by (zc_below hst k T) (s_Ck hst k T) (vc_gcsin k a b _) ⟨h, ⟨rfl, rfl⟩, rfl⟩
theorem m_gccos {k : Nat} {T : TypeId} {a b : Int} (h : ArcV a b) : Ans Tryz.prog (Zc Φ k T) 74 [ptr k, wid a b] (wid (cL a b) (cH a b)) :=
  fn_by (zc_below hst k T) (s_Ck hst k T) (vc_gccos k a b _) ⟨h, ⟨rfl, rfl⟩, rfl⟩
theorem m_gcmul {k : Nat} {T : TypeId} {a b c d : Int} (h : FixO a b ∧ FixO c d) : Ans Tryz.prog (Zc Φ k T) 72 [ptr k, wid a b, wid c d] (wid (muL a b c d) (muH a b c d)) :=
  fn_by (zc_below hst k T) (s_Ck hst k T) (vc_gcmul k a b c d _) ⟨h, ⟨rfl, rfl⟩, rfl⟩
theorem m_gcadd {k : Nat} {T : TypeId} {a b c d : Int} (h : FixO a b ∧ FixO c d) : Ans Tryz.prog (Zc Φ k T) 80 [ptr k, wid a b, wid c d] (wid (a + c) (b + d)) :=
  fn_by (zc_below hst k T) (s_Ck hst k T) (vc_gcadd k a b c d _) ⟨h, ⟨rfl, rfl⟩, rfl⟩
theorem m_gcsub {k : Nat} {T : TypeId} {a b c d : Int} (h : FixO a b ∧ FixO c d) : Ans Tryz.prog (Zc Φ k T) 75 [ptr k, wid a b, wid c d] (wid (a - d) (b - c)) :=
  fn_by (zc_below hst k T) (s_Ck hst k T) (vc_gcsub k a b c d _) ⟨h, ⟨rfl, rfl⟩, rfl⟩
end Go.Proofs.YtjdcicjhpegphaaGreat
/- The reduction of a sight: what the functions answer. -/
namespace Go.Proofs.YtjdcicjhpegphaaGreat
open Go Go.Abs Go.RowKit Go.Sine
def mulP (p q : Int × Int) : Int × Int := (muL p.1 p.2 q.1 q.2, muH p.1 p.2 q.1 q.2)
def addP (p q : Int × Int) : Int × Int := (p.1 + q.1, p.2 + q.2)
def subP (p q : Int × Int) : Int × Int := (p.1 - q.2, p.2 - q.1)
def negP (p : Int × Int) : Int × Int := (-p.2, -p.1)
def sinT (a b : Int) : Int × Int := (encL a b, encH a b)
def cosT (a b : Int) : Int × Int := (cL a b, cH a b)
def sAl (l l' d d' h h' : Int) : Int × Int := addP (mulP (sinT l l') (sinT d d')) (mulP (mulP (cosT l l') (cosT d d')) (cosT h h'))
def yAz (l l' d d' h h' : Int) : Int × Int := negP (mulP (cosT d d') (sinT h h'))
def xAz (l l' d d' h h' : Int) : Int × Int := subP (mulP (sinT d d') (cosT l l')) (mulP (mulP (cosT d d') (cosT h h')) (sinT l l'))
def asL (a : Int) : Int := asnI (max a (-1073741824))
def asH (b : Int) : Int := -asnI (-min b 1073741824)
def hL (l l' d d' h h' : Int) : Int := asL (sAl l l' d d' h h').1
def hH (l l' d d' h h' : Int) : Int := asH (sAl l l' d d' h h').2
def zL (l l' d d' h h' : Int) : Int := bL (yAz l l' d d' h h').1 (yAz l l' d d' h h').2 (xAz l l' d d' h h').1 (xAz l l' d d' h h').2
def zH (l l' d d' h h' : Int) : Int := bH (yAz l l' d d' h h').1 (yAz l l' d d' h h').2 (xAz l l' d d' h h').1 (xAz l l' d d' h h').2
def TrV (l l' d d' h h' : Int) : Prop := LatV l l' ∧ LatV d d' ∧ ArcV h h'
instance (l l' d d' h h' : Int) : Decidable (TrV l l' d d' h h') := by unfold TrV; infer_instance
def ZA (z a b : Int) : Prop := z = 0 ∧ ArcV a b
def ZO2 (z a b c d : Int) : Prop := z = 0 ∧ FixO a b ∧ FixO c d
def ZV (z a b : Int) : Prop := z = 0 ∧ FixV a b
def pSn (sl sh : Int → Int → Int) : PSpec := fun | [.agg ⟨[.int .i64 a, .int .i64 b]⟩], [.int .i64 z] => some (ZA z a b, wid (sl a b) (sh a b)) | _, _ => none
def pMu (ml mh : Int → Int → Int → Int → Int) : PSpec := fun | [.agg ⟨[.int .i64 a, .int .i64 b]⟩, .agg ⟨[.int .i64 c, .int .i64 d]⟩], [.int .i64 z] => some (ZO2 z a b c d, wid (ml a b c d) (mh a b c d)) | _, _ => none
def pAd : PSpec := fun | [.agg ⟨[.int .i64 a, .int .i64 b]⟩, .agg ⟨[.int .i64 c, .int .i64 d]⟩], [.int .i64 z] => some (ZO2 z a b c d, wid (a + c) (b + d)) | _, _ => none
def pSb : PSpec := fun | [.agg ⟨[.int .i64 a, .int .i64 b]⟩, .agg ⟨[.int .i64 c, .int .i64 d]⟩], [.int .i64 z] => some (ZO2 z a b c d, wid (a - d) (b - c)) | _, _ => none
def pNg : PSpec := fun | [.agg ⟨[.int .i64 a, .int .i64 b]⟩], [.int .i64 z] => some (ZV z a b, wid (-b) (-a)) | _, _ => none
def AsOk (a b : Int) : Prop := FixV a b ∧ a ≤ 1073741824 ∧ -1073741824 ≤ b
def sAsn (al ah : Int → Int) : FSpec := fun | [.agg ⟨[.int .i64 a, .int .i64 b]⟩] => some (AsOk a b, fxOk (al a) (ah b)) | _ => none
def BgOk (a b c d : Int) : Prop := FixV a b ∧ FixV c d
def sBrg (zl zh : Int → Int → Int → Int → Int) : FSpec := fun | [.agg ⟨[.int .i64 a, .int .i64 b]⟩, .agg ⟨[.int .i64 c, .int .i64 d]⟩] => some (BgOk a b c d, fxOk (zl a b c d) (zh a b c d)) | _ => none
def ΓCs (sl sh kl kh : Int → Int → Int) (ml mh zl zh : Int → Int → Int → Int → Int) (al ah : Int → Int) : List (FuncId × CSpec) := [(135, .p (pSn sl sh)), (136, .p (pSn kl kh)), (109, .p (pMu ml mh)), (108, .p pAd), (120, .p pSb), (119, .p pNg), (110, .v (sAsn al ah)), (77, .v (sBrg zl zh))]
abbrev tri6 (l l' d d' h h' : Int) : Value := .agg ⟨[.int .i64 l, .int .i64 l', .int .i64 d, .int .i64 d', .int .i64 h, .int .i64 h']⟩
abbrev arc4 (a b c d : Int) : Value := .agg ⟨[.int .i64 a, .int .i64 b, .int .i64 c, .int .i64 d]⟩
def sTri (p : Int → Int → Int → Int → Int → Int → Prop) (f g : Int → Int → Int → Int → Int → Int → Int) : FSpec := fun | [.agg ⟨[.int .i64 l, .int .i64 l', .int .i64 d, .int .i64 d', .int .i64 h, .int .i64 h']⟩] => some (p l l' d d' h h', fxOk (f l l' d d' h h') (g l l' d d' h h')) | _ => none
def sTrV : FSpec := fun | [.agg ⟨[.int .i64 l, .int .i64 l', .int .i64 d, .int .i64 d', .int .i64 h, .int .i64 h']⟩] => some (True, .bool (decide (TrV l l' d d' h h'))) | _ => none
def ΓCt : List (FuncId × CSpec) := [(106, .v sLatV), (26, .v sAnValid)]
def ΓCu (f g z u : Int → Int → Int → Int → Int → Int → Int) : List (FuncId × CSpec) := [(64, .v sTrV), (65, .v (sTri TrV f g)), (70, .v (sTri TrV z u))]
end Go.Proofs.YtjdcicjhpegphaaGreat
/- The reduction of a sight: what the functions ask. -/
namespace Go.Proofs.YtjdcicjhpegphaaGreat
open Go Go.Abs Go.RowKit Go.Sine
theorem vc_cslatitude (a b : Int) (K : Value → Prop) : callsX Tryz.prog (ΓAw) (noAnn) 106 [wid a b] K = (
 True ∧ bcase (decide (ArcV a b)) (bcase (decide (a ≥ -5400000)) (K (Value.bool (decide (b ≤ 5400000)))) (K (Value.bool false))) (K (Value.bool false))) := by kernel_rfl
theorem vc_csvalid (l l' d d' h h' : Int) (K : Value → Prop) : callsX Tryz.prog (ΓCt) (noAnn) 64 [tri6 l l' d d' h h'] K = (
 True ∧ bcase (decide (LatV l l')) (True ∧ bcase (decide (LatV d d')) (True ∧ K (Value.bool (decide (ArcV h h')))) (K (Value.bool false))) (K (Value.bool false))) := by kernel_rfl
theorem vc_csalti (l l' d d' h h' : Int) (sl sh kl kh : Int → Int → Int) (ml mh zl zh : Int → Int → Int → Int → Int) (al ah : Int → Int) (K : Value → Prop) : callsX Tryz.prog (ΓCs sl sh kl kh ml mh zl zh al ah) (noAnn) 65 [tri6 l l' d d' h h'] K = (
 ZA 0 l l' ∧
 ZA 0 l l' ∧
 ZA 0 d d' ∧
 ZA 0 d d' ∧
 ZA 0 h h' ∧
 ZA 0 h h' ∧
 ZO2 0 (sl l l') (sh l l') (sl d d') (sh d d') ∧
 ZO2 0 (kl l l') (kh l l') (kl d d') (kh d d') ∧
 ZO2 0 (ml (kl l l') (kh l l') (kl d d') (kh d d')) (mh (kl l l') (kh l l') (kl d d') (kh d d')) (kl h h') (kh h h') ∧
 ZO2 0 (ml (sl l l') (sh l l') (sl d d') (sh d d')) (mh (sl l l') (sh l l') (sl d d') (sh d d')) (ml (ml (kl l l') (kh l l') (kl d d') (kh d d')) (mh (kl l l') (kh l l') (kl d d') (kh d d')) (kl h h') (kh h h')) (mh (ml (kl l l') (kh l l') (kl d d') (kh d d')) (mh (kl l l') (kh l l') (kl d d') (kh d d')) (kl h h') (kh h h')) ∧
 AsOk (ml (sl l l') (sh l l') (sl d d') (sh d d') + ml (ml (kl l l') (kh l l') (kl d d') (kh d d')) (mh (kl l l') (kh l l') (kl d d') (kh d d')) (kl h h') (kh h h')) (mh (sl l l') (sh l l') (sl d d') (sh d d') + mh (ml (kl l l') (kh l l') (kl d d') (kh d d')) (mh (kl l l') (kh l l') (kl d d') (kh d d')) (kl h h') (kh h h')) ∧
 K
 (Value.tuple
 #[Value.agg #[Value.int IntKind.i64 (al (ml (sl l l') (sh l l') (sl d d') (sh d d') + ml (ml (kl l l') (kh l l') (kl d d') (kh d d')) (mh (kl l l') (kh l l') (kl d d') (kh d d')) (kl h h') (kh h h'))), Value.int IntKind.i64 (ah (mh (sl l l') (sh l l') (sl d d') (sh d d') + mh (ml (kl l l') (kh l l') (kl d d') (kh d d')) (mh (kl l l') (kh l l') (kl d d') (kh d d')) (kl h h') (kh h h')))],
 Value.int IntKind.i64 0])) := by kernel_rfl
theorem vc_csazi (l l' d d' h h' : Int) (sl sh kl kh : Int → Int → Int) (ml mh zl zh : Int → Int → Int → Int → Int) (al ah : Int → Int) (K : Value → Prop) : callsX Tryz.prog (ΓCs sl sh kl kh ml mh zl zh al ah) (noAnn) 70 [tri6 l l' d d' h h'] K = (
 ZA 0 l l' ∧
 ZA 0 l l' ∧
 ZA 0 d d' ∧
 ZA 0 d d' ∧
 ZA 0 h h' ∧
 ZA 0 h h' ∧
 ZO2 0 (kl d d') (kh d d') (sl h h') (sh h h') ∧
 ZV 0 (ml (kl d d') (kh d d') (sl h h') (sh h h')) (mh (kl d d') (kh d d') (sl h h') (sh h h')) ∧
 ZO2 0 (sl d d') (sh d d') (kl l l') (kh l l') ∧
 ZO2 0 (kl d d') (kh d d') (kl h h') (kh h h') ∧
 ZO2 0 (ml (kl d d') (kh d d') (kl h h') (kh h h')) (mh (kl d d') (kh d d') (kl h h') (kh h h')) (sl l l') (sh l l') ∧
 ZO2 0 (ml (sl d d') (sh d d') (kl l l') (kh l l')) (mh (sl d d') (sh d d') (kl l l') (kh l l')) (ml (ml (kl d d') (kh d d') (kl h h') (kh h h')) (mh (kl d d') (kh d d') (kl h h') (kh h h')) (sl l l') (sh l l')) (mh (ml (kl d d') (kh d d') (kl h h') (kh h h')) (mh (kl d d') (kh d d') (kl h h') (kh h h')) (sl l l') (sh l l')) ∧
 BgOk (-mh (kl d d') (kh d d') (sl h h') (sh h h')) (-ml (kl d d') (kh d d') (sl h h') (sh h h')) (ml (sl d d') (sh d d') (kl l l') (kh l l') - mh (ml (kl d d') (kh d d') (kl h h') (kh h h')) (mh (kl d d') (kh d d') (kl h h') (kh h h')) (sl l l') (sh l l'))
 (mh (sl d d') (sh d d') (kl l l') (kh l l') - ml (ml (kl d d') (kh d d') (kl h h') (kh h h')) (mh (kl d d') (kh d d') (kl h h') (kh h h')) (sl l l') (sh l l')) ∧
 K
 (Value.tuple
 #[Value.agg
 #[Value.int IntKind.i64
 (zl (-mh (kl d d') (kh d d') (sl h h') (sh h h')) (-ml (kl d d') (kh d d') (sl h h') (sh h h')) (ml (sl d d') (sh d d') (kl l l') (kh l l') - mh (ml (kl d d') (kh d d') (kl h h') (kh h h')) (mh (kl d d') (kh d d') (kl h h') (kh h h')) (sl l l') (sh l l'))
 (mh (sl d d') (sh d d') (kl l l') (kh l l') - ml (ml (kl d d') (kh d d') (kl h h') (kh h h')) (mh (kl d d') (kh d d') (kl h h') (kh h h')) (sl l l') (sh l l'))),
 Value.int IntKind.i64
 (zh (-mh (kl d d') (kh d d') (sl h h') (sh h h')) (-ml (kl d d') (kh d d') (sl h h') (sh h h')) (ml (sl d d') (sh d d') (kl l l') (kh l l') - mh (ml (kl d d') (kh d d') (kl h h') (kh h h')) (mh (kl d d') (kh d d') (kl h h') (kh h h')) (sl l l') (sh l l'))
 (mh (sl d d') (sh d d') (kl l l') (kh l l') - ml (ml (kl d d') (kh d d') (kl h h') (kh h h')) (mh (kl d d') (kh d d') (kl h h') (kh h h')) (sl l l') (sh l l')))],
 Value.int IntKind.i64 0])) := by kernel_rfl
theorem vc_csaltitude (l l' d d' h h' : Int) (f g z u : Int → Int → Int → Int → Int → Int → Int) (K : Value → Prop) : callsX Tryz.prog (ΓCu f g z u) (noAnn) 24 [tri6 l l' d d' h h'] K = (
 True ∧ bcase (!decide (TrV l l' d d' h h')) (K (Value.tuple #[Value.agg #[Value.int IntKind.i64 0, Value.int IntKind.i64 0], Value.int IntKind.i64 1])) (TrV l l' d d' h h' ∧ K (Value.tuple #[Value.agg #[Value.int IntKind.i64 (f l l' d d' h h'), Value.int IntKind.i64 (g l l' d d' h h')], Value.int IntKind.i64 0]))) := by kernel_rfl
end Go.Proofs.YtjdcicjhpegphaaGreat
/- Quotients of intervals, by the reference: what they answer. -/
namespace Go.Proofs.YtjdcicjhpegphaaGreat
open Go Go.Abs Go.RowKit
end Go.Proofs.YtjdcicjhpegphaaGreat
/- Quotients of intervals, by the reference: what they ask. -/
namespace Go.Proofs.YtjdcicjhpegphaaGreat
open Go Go.Abs Go.RowKit
end Go.Proofs.YtjdcicjhpegphaaGreat
/- Quotients of intervals, by the reference: contracts. -/
namespace Go.Proofs.YtjdcicjhpegphaaGreat
open Go Go.Abs Go.RowKit
variable {Φ : World → Prop} (hst : ∀ w w', Φ w → Below w.heap.size w w' → Φ w')
include hst
end Go.Proofs.YtjdcicjhpegphaaGreat
/- Quotients of intervals, by the reference: contracts of the whole. -/
namespace Go.Proofs.YtjdcicjhpegphaaGreat
open Go Go.Abs Go.RowKit
variable {Φ : World → Prop} (hst : ∀ w w', Φ w → Below w.heap.size w w' → Φ w')
include hst
end Go.Proofs.YtjdcicjhpegphaaGreat
/- Quotients of intervals: the reference answers as the program does. -/
namespace Go.Proofs.YtjdcicjhpegphaaGreat
open Go Go.Abs Go.RowKit
variable {Φ : World → Prop} (hst : ∀ w w', Φ w → Below w.heap.size w w' → Φ w')
include hst
end Go.Proofs.YtjdcicjhpegphaaGreat
/- Quotients of intervals of one sign. -/
namespace Go.Proofs.YtjdcicjhpegphaaGreat
open Go Go.Abs Go.RowKit
/-! Quotients of an interval of one sign. -/
theorem enc_fix {a b : Int} (h : a ≤ b) : FixV (encL a b) (encH a b) := by
  have r1 := ends_range a
  have r2 := ends_range b
  have e1 := ends_eq a
  have l1 : loI a ≤ hiE a := by rw [e1]; split <;> omega
  unfold FixV encL encH
  split <;> split <;> omega
end Go.Proofs.YtjdcicjhpegphaaGreat
/- The reduction of a sight: contracts. -/
namespace Go.Proofs.YtjdcicjhpegphaaGreat
open Go Go.Abs Go.RowKit Go.Sine
def OkP (p : Int × Int) : Prop := FixO p.1 p.2
theorem sin_ok {a b : Int} (h : a ≤ b) : OkP (sinT a b) := by
  have r1 := ends_range a
  have r2 := ends_range b
  have v := enc_fix h
  unfold OkP sinT FixO
  unfold FixV at v
  unfold encL encH at *
  dsimp only
  refine ⟨?_, v.2.1, ?_⟩ <;> split <;> omega
theorem cos_ok {a b : Int} (h : a ≤ b) : OkP (cosT a b) := sin_ok (a := a + 5400000) (b := b + 5400000) (by omega)
theorem mul_ok {p q : Int × Int} (h : OkP p) (k : OkP q) : OkP (mulP p q) := mu_ok h k
theorem TrV.oks {l l' d d' h h' : Int} (v : TrV l l' d d' h h') : OkP (sinT l l') ∧ OkP (cosT l l') ∧ OkP (sinT d d') ∧ OkP (cosT d d') ∧ OkP (sinT h h') ∧ OkP (cosT h h') := by
  obtain ⟨⟨a, _⟩, ⟨b, _⟩, ⟨_, c, _⟩⟩ := v
  exact ⟨sin_ok a, cos_ok a, sin_ok b, cos_ok b, sin_ok c, cos_ok c⟩
theorem LatV.arc {a b : Int} (h : LatV a b) : ArcV a b := by unfold LatV at h; unfold ArcV; omega
theorem add_v {p q : Int × Int} (h : OkP p) (k : OkP q) : FixV (addP p q).1 (addP p q).2 := by
  unfold OkP FixO at h k; unfold addP FixV; dsimp only; omega
theorem sub_v {p q : Int × Int} (h : OkP p) (k : OkP q) : FixV (subP p q).1 (subP p q).2 := by
  unfold OkP FixO at h k; unfold subP FixV; dsimp only; omega
variable {Φ : World → Prop} (hst : ∀ w w', Φ w → Below w.heap.size w w' → Φ w')
include hst
theorem c_cslatitude (a b : Int) : Ans Tryz.prog Φ 106 [wid a b] (.bool (decide (LatV a b))) := by
  refine fn_by hst (s_Aw hst) (vc_cslatitude a b _) ?_
  refine ⟨trivial, bcase_iff.mpr ⟨fun p => bcase_iff.mpr ⟨fun q => ?_, fun q => ?_⟩, fun p => ?_⟩⟩
  all_goals simp only [decide_eq_true_eq, decide_eq_false_iff_not] at *
  · exact bo_iff (by unfold ArcV at *; unfold LatV; omega)
  · exact bo_no (by unfold ArcV at *; unfold LatV; omega)
  · exact bo_no (by unfold ArcV at *; unfold LatV; omega)
theorem s_Ct : Sound Tryz.prog Φ ΓCt :=
  Sound.cons (by kernel_rfl) (fun args p v h hp => by unfold sLatV at h; split at h <;> cases h; exact c_cslatitude hst _ _)
  (Sound.cons (by kernel_rfl) (fun args p v h hp => by unfold sAnValid at h; split at h <;> cases h; exact c_anvalid hst _ _) Sound.nil)
theorem c_csvalid (l l' d d' h h' : Int) : Ans Tryz.prog Φ 64 [tri6 l l' d d' h h'] (.bool (decide (TrV l l' d d' h h'))) := by
  refine fn_by hst (s_Ct hst) (vc_csvalid l l' d d' h h' _) ?_
  refine ⟨trivial, bcase_iff.mpr ⟨fun p => ⟨trivial, bcase_iff.mpr ⟨fun q => ⟨trivial, ?_⟩, fun q => ?_⟩⟩, fun p => ?_⟩⟩
  · exact bo_iff ⟨fun r => ⟨of_decide_eq_true p, of_decide_eq_true q, r⟩, fun r => r.2.2⟩
  · exact bo_no (fun r => of_decide_eq_false q r.2.1)
  · exact bo_no (fun r => of_decide_eq_false p r.1)
theorem s_Cs : Sound Tryz.prog Φ (ΓCs encL encH cL cH muL muH bL bH asL asH) :=
  Sound.pcons (by kernel_rfl) (fun args cell p v h hp => by unfold pSn at h; split at h <;> cases h; obtain ⟨h1, h2⟩ := hp; subst h1; exact zc_pans fun b T => m_cssin hst h2)
  (Sound.pcons (by kernel_rfl) (fun args cell p v h hp => by unfold pSn at h; split at h <;> cases h; obtain ⟨h1, h2⟩ := hp; subst h1; exact zc_pans fun b T => m_cscos hst h2)
  (Sound.pcons (by kernel_rfl) (fun args cell p v h hp => by unfold pMu at h; split at h <;> cases h; obtain ⟨h1, h2⟩ := hp; subst h1; exact zc_pans fun b T => m_csmul hst h2)
  (Sound.pcons (by kernel_rfl) (fun args cell p v h hp => by unfold pAd at h; split at h <;> cases h; obtain ⟨h1, h2⟩ := hp; subst h1; exact zc_pans fun b T => m_csadd hst h2)
  (Sound.pcons (by kernel_rfl) (fun args cell p v h hp => by unfold pSb at h; split at h <;> cases h; obtain ⟨h1, h2⟩ := hp; subst h1; exact zc_pans fun b T => m_cssub hst h2)
  (Sound.pcons (by kernel_rfl) (fun args cell p v h hp => by unfold pNg at h; split at h <;> cases h; obtain ⟨h1, h2⟩ := hp; subst h1; exact zc_pans fun b T => m_csneg hst h2)
  (Sound.cons (by kernel_rfl) (fun args p v h hp => by unfold sAsn at h; split at h <;> cases h; exact c_atasin hst hp.1 hp.2.1 hp.2.2)
  (Sound.cons (by kernel_rfl) (fun args p v h hp => by unfold sBrg at h; split at h <;> cases h; exact c_atbearing hst hp.1 hp.2) Sound.nil)))))))
def MeT (l l' d d' h h' : Int) : Prop := (sAl l l' d d' h h').1 ≤ 1073741824 ∧ -1073741824 ≤ (sAl l l' d d' h h').2
def MeetsAll : Prop := ∀ l l' d d' h h', TrV l l' d d' h h' → MeT l l' d d' h h'
omit hst in
theorem fx_add {a b c d : Int} (h : FixO a b) (k : FixO c d) : FixV (a + c) (b + d) := by unfold FixO at h k; unfold FixV; omega
omit hst in
theorem fx_sub {a b c d : Int} (h : FixO a b) (k : FixO c d) : FixV (a - d) (b - c) := by unfold FixO at h k; unfold FixV; omega
omit hst in
theorem fx_neg {a b : Int} (h : FixO a b) : FixV (-b) (-a) := by unfold FixO at h; unfold FixV; omega
theorem c_csalti (hm : MeetsAll) {l l' d d' h h' : Int} (v : TrV l l' d d' h h') : Ans Tryz.prog Φ 65 [tri6 l l' d d' h h'] (fxOk (hL l l' d d' h h') (hH l l' d d' h h')) := by
  have m := hm _ _ _ _ _ _ v
  unfold MeT sAl addP mulP sinT cosT at m
  dsimp only at m
  unfold hL hH sAl addP mulP sinT cosT
  dsimp only
  refine fn_by hst (s_Cs hst) (vc_csalti l l' d d' h h' encL encH cL cH muL muH bL bH asL asH _) ?_
  obtain ⟨o1, o2, o3, o4, o5, o6⟩ := v.oks
  have o1 : FixO (encL l l') (encH l l') := o1
  have o2 : FixO (cL l l') (cH l l') := o2
  have o3 : FixO (encL d d') (encH d d') := o3
  have o4 : FixO (cL d d') (cH d d') := o4
  have o6 : FixO (cL h h') (cH h h') := o6
  have a1 := v.1.arc
  have a2 := v.2.1.arc
  have a3 := v.2.2
  exact ⟨⟨rfl, a1⟩, ⟨rfl, a1⟩, ⟨rfl, a2⟩, ⟨rfl, a2⟩, ⟨rfl, a3⟩, ⟨rfl, a3⟩, ⟨rfl, o1, o3⟩, ⟨rfl, o2, o4⟩, ⟨rfl, mu_ok o2 o4, o6⟩, ⟨rfl, mu_ok o1 o3, mu_ok (mu_ok o2 o4) o6⟩, ⟨fx_add (mu_ok o1 o3) (mu_ok (mu_ok o2 o4) o6), m.1, m.2⟩, rfl⟩
theorem c_csazi {l l' d d' h h' : Int} (v : TrV l l' d d' h h') : Ans Tryz.prog Φ 70 [tri6 l l' d d' h h'] (fxOk (zL l l' d d' h h') (zH l l' d d' h h')) := by
  unfold zL zH yAz xAz subP negP mulP sinT cosT
  dsimp only
  refine fn_by hst (s_Cs hst) (vc_csazi l l' d d' h h' encL encH cL cH muL muH bL bH asL asH _) ?_
  obtain ⟨o1, o2, o3, o4, o5, o6⟩ := v.oks
  have o1 : FixO (encL l l') (encH l l') := o1
  have o2 : FixO (cL l l') (cH l l') := o2
  have o3 : FixO (encL d d') (encH d d') := o3
  have o4 : FixO (cL d d') (cH d d') := o4
  have o5 : FixO (encL h h') (encH h h') := o5
  have o6 : FixO (cL h h') (cH h h') := o6
  have a1 := v.1.arc
  have a2 := v.2.1.arc
  have a3 := v.2.2
  exact ⟨⟨rfl, a1⟩, ⟨rfl, a1⟩, ⟨rfl, a2⟩, ⟨rfl, a2⟩, ⟨rfl, a3⟩, ⟨rfl, a3⟩, ⟨rfl, o4, o5⟩, ⟨rfl, FixO.v (mu_ok o4 o5)⟩, ⟨rfl, o3, o2⟩, ⟨rfl, o4, o6⟩, ⟨rfl, mu_ok o4 o6, o1⟩, ⟨rfl, mu_ok o3 o2, mu_ok (mu_ok o4 o6) o1⟩, ⟨fx_neg (mu_ok o4 o5), fx_sub (mu_ok o3 o2) (mu_ok (mu_ok o4 o6) o1)⟩, rfl⟩
theorem s_Cu (hm : MeetsAll) : Sound Tryz.prog Φ (ΓCu hL hH zL zH) :=
  Sound.cons (by kernel_rfl) (fun args p v h hp => by unfold sTrV at h; split at h <;> cases h; exact c_csvalid hst _ _ _ _ _ _)
  (Sound.cons (by kernel_rfl) (fun args p v h hp => by unfold sTri at h; split at h <;> cases h; exact c_csalti hst hm hp)
  (Sound.cons (by kernel_rfl) (fun args p v h hp => by unfold sTri at h; split at h <;> cases h; exact c_csazi hst hp) Sound.nil))
theorem c_csaltitude (hm : MeetsAll) {l l' d d' h h' : Int} (v : TrV l l' d d' h h') : Ans Tryz.prog Φ 24 [tri6 l l' d d' h h'] (fxOk (hL l l' d d' h h') (hH l l' d d' h h')) := by
  refine fn_by hst (s_Cu hst hm) (vc_csaltitude l l' d d' h h' _ _ _ _ _) ?_
  rw [decide_eq_true v]
  exact ⟨trivial, v, rfl⟩
end Go.Proofs.YtjdcicjhpegphaaGreat
