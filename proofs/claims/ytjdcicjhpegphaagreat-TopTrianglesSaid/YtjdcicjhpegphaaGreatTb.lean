/- TopTriangles: half-angles: what the functions answer. TopTriangles: half-angles: what the functions ask. TopTriangles: half-angles: contracts. TopTriangles: half-angles: contracts of the methods, of sides, of roots. -/
import Derived.Test.YtjdcicjhpegphaaGreatTa
set_option linter.unusedSimpArgs false
set_option linter.unusedVariables false
namespace Go.Proofs.YtjdcicjhpegphaaGreat
open Go Go.Abs Go.RowKit Go.Sine
def Q37 (a b : Int) : Prop := -137438953472 ≤ a ∧ a ≤ b ∧ b ≤ 137438953472
def Sm4 (n : Int) : Prop := 1 ≤ n ∧ n ≤ 4
def TmOk (a b n d : Int) : Prop := Q37 a b ∧ Sm4 n ∧ Sm4 d
def tmL (a n d : Int) : Int := a * n / d
def tmH (b n d : Int) : Int := -(-(b * n) / d)
def sAnTm (tl th : Int → Int → Int → Int) : FSpec := fun | [.agg ⟨[.int .i64 a, .int .i64 b]⟩, .int .i64 n, .int .i64 d] => some (TmOk a b n d, fxOk (tl a n d) (th b n d)) | _ => none
def Q37s (a b c d : Int) : Prop := Q37 a b ∧ Q37 c d
def sAnAd : FSpec := fun | [.agg ⟨[.int .i64 a, .int .i64 b]⟩, .agg ⟨[.int .i64 c, .int .i64 d]⟩] => some (Q37s a b c d, fxOk (a + c) (b + d)) | _ => none
def sAnSb : FSpec := fun | [.agg ⟨[.int .i64 a, .int .i64 b]⟩, .agg ⟨[.int .i64 c, .int .i64 d]⟩] => some (Q37s a b c d, fxOk (a - d) (b - c)) | _ => none
def FlOk (n d : Int) : Prop := (-1099511627776 ≤ n ∧ n ≤ 1099511627776) ∧ Sm4 d
def sAnFl : FSpec := fun | [.int .i64 n, .int .i64 d] => some (FlOk n d, num (n / d)) | _ => none
def RsOk (a b : Int) : Prop := (-1099511627776 ≤ a ∧ a ≤ 1099511627776) ∧ -1099511627776 ≤ b ∧ b ≤ 1099511627776
def sAnRs : FSpec := fun | [.int .i64 a, .int .i64 b] => some (RsOk a b, fxOk a b) | _ => none
def ΓTi : List (FuncId × CSpec) := [(26, .v sAnValid), (128, .v sAnFl), (105, .v sAnRs)]
def ΓHm (k : Nat) : List (FuncId × CSpec) := [(83, .v (sKeep k)), (81, .v (sKeep k)), (84, .v (sMulO muL muH)), (85, .v (sTrSin encL encH)), (94, .v (sTrSin cL cH)), (62, .v sAnAd), (68, .v sAnSb), (82, .v (sAnTm tmL tmH)), (77, .v (sBrg bL bH))]
def ZQ2 (z a b c d : Int) : Prop := z = 0 ∧ Q37 a b ∧ Q37 c d
def ZTm (z a b n d : Int) : Prop := z = 0 ∧ TmOk a b n d
def ZBg (z a b c d : Int) : Prop := z = 0 ∧ BgOk a b c d
def pPl : PSpec := fun | [.agg ⟨[.int .i64 a, .int .i64 b]⟩, .agg ⟨[.int .i64 c, .int .i64 d]⟩], [.int .i64 z] => some (ZQ2 z a b c d, wid (a + c) (b + d)) | _, _ => none
def pMi : PSpec := fun | [.agg ⟨[.int .i64 a, .int .i64 b]⟩, .agg ⟨[.int .i64 c, .int .i64 d]⟩], [.int .i64 z] => some (ZQ2 z a b c d, wid (a - d) (b - c)) | _, _ => none
def pPa (tl th : Int → Int → Int → Int) : PSpec := fun | [.agg ⟨[.int .i64 a, .int .i64 b]⟩, .int .i64 n, .int .i64 d], [.int .i64 z] => some (ZTm z a b n d, wid (tl a n d) (th b n d)) | _, _ => none
def SideV (a b : Int) : Prop := ArcV a b ∧ 0 ≤ a ∧ b ≤ 10800000
instance (a b : Int) : Decidable (SideV a b) := by unfold SideV; infer_instance
def sSide : FSpec := fun | [.agg ⟨[.int .i64 a, .int .i64 b]⟩] => some (True, .bool (decide (SideV a b))) | _ => none
def ΓAv : List (FuncId × CSpec) := [(26, .v sAnValid)]
def PsD (d : Int) : Prop := 0 < d ∧ d ≤ 2147483648
def sFlP : FSpec := fun | [.int .i64 n, .int .i64 d] => some (Q62 n ∧ PsD d, num (n / d)) | _ => none
def sCeP : FSpec := fun | [.int .i64 n, .int .i64 d] => some (Q62 n ∧ PsD d, num (-(-n / d))) | _ => none
def sZe (zb : Int → Int → Bool) : FSpec := fun | [.agg ⟨[.int .i64 a, .int .i64 b]⟩] => some (True, .bool (zb a b)) | _ => none
def ΓDv : List (FuncId × CSpec) := [(86, .v sFxBoth), (91, .v sFxValid), (87, .v (sZe (fun a b => decide (a ≤ 0 ∧ 0 ≤ b)))), (88, .v sFlP), (89, .v sCeP)]
def ADv : FuncId → List (Nat × LoopBy) := fun _ => [(1, .times 3), (2, .times 3), (3, .times 3), (4, .times 3)]
structure DvIs (a b c d l h x : Int) : Prop where
  e : (x = 16 ∧ c ≤ 0) ∨ (x = 5 ∧ 0 < c ∧ ¬ FixV (dvL a b c d) (dvH a b c d)) ∨ (x = 0 ∧ 0 < c ∧ FixV (dvL a b c d) (dvH a b c d) ∧ l = dvL a b c d ∧ h = dvH a b c d)
def DvOk (a b c d : Int) : Prop := FixO a b ∧ FixO c d ∧ 0 ≤ d
def qDv : QSpec := fun | [.agg ⟨[.int .i64 a, .int .i64 b]⟩, .agg ⟨[.int .i64 c, .int .i64 d]⟩] => some (DvOk a b c d, fun K => ∀ l h x, DvIs a b c d l h x → K (pair (wid l h) (num x))) | _ => none
def RtOk (n : Int) : Prop := 0 ≤ n ∧ n ≤ 2305843009213693952
def sRt (rt : Int → Int) : FSpec := fun | [.int .i64 n] => some (RtOk n, num (rt n)) | _ => none
structure RtR (n : Int) (f : Nat) (b k : Int) : Prop where
  f32 : f ≤ 32
  eb : b = 2 ^ f / 2
  k0 : 0 ≤ k
  kk : k * k ≤ n
  z : f = 32 → k = 0
  eq : rtF n f b k = rtI n
def annRt (n : Int) : Ann where
  σ := Nat × Int × Int
  st := fun s v => ⟨lset (lset (keepA s 22 [0, 2]) 3 (.v (.int .i64 v.2.2))) 4 (.v (.int .i64 v.2.1)), s.hp⟩
  inv := fun _ v => RtR n v.1 v.2.1 v.2.2
  μ := fun _ v => v.1
def ARt (n : Int) : FuncId → List (Nat × LoopBy) := fun _ => [(0, .ann (annRt n))]
def ΓSq (rt : Int → Int) : List (FuncId × CSpec) := [(91, .v sFxValid), (95, .v (sRt rt))]
end Go.Proofs.YtjdcicjhpegphaaGreat
namespace Go.Proofs.YtjdcicjhpegphaaGreat
open Go Go.Abs Go.RowKit Go.Sine
theorem vc_anfloor (n d : Int) (K : Value → Prop) : callsX Tryz.prog ([]) (noAnn) 128 [num n, num d] K = (
 bcase (d == 0) False (bcase (d == 0) False (bcase (decide (n.tmod d < 0)) (K (Value.int IntKind.i64 (IntKind.i64.wrap (IntKind.i64.wrap (n.tdiv d) - 1)))) (K (Value.int IntKind.i64 (IntKind.i64.wrap (n.tdiv d))))))) := by kernel_rfl
theorem vc_anresult (a b : Int) (K : Value → Prop) : callsX Tryz.prog ([]) (noAnn) 105 [num a, num b] K = (
 bcase (decide (a ≥ -1099511627776))
 (bcase (!decide (a ≤ 1099511627776)) (K (Value.tuple #[Value.agg #[Value.int IntKind.i64 0, Value.int IntKind.i64 0], Value.int IntKind.i64 5]))
 (bcase (decide (b ≥ -1099511627776)) (bcase (!decide (b ≤ 1099511627776)) (K (Value.tuple #[Value.agg #[Value.int IntKind.i64 0, Value.int IntKind.i64 0], Value.int IntKind.i64 5])) (K (Value.tuple #[Value.agg #[Value.int IntKind.i64 a, Value.int IntKind.i64 b], Value.int IntKind.i64 0]))) (K (Value.tuple #[Value.agg #[Value.int IntKind.i64 0, Value.int IntKind.i64 0], Value.int IntKind.i64 5]))))
 (K (Value.tuple #[Value.agg #[Value.int IntKind.i64 0, Value.int IntKind.i64 0], Value.int IntKind.i64 5]))) := by kernel_rfl
theorem vc_antimes (a b n d : Int) (K : Value → Prop) : callsX Tryz.prog (ΓTi) (noAnn) 82 [wid a b, num n, num d] K = (
 True ∧
 bcase (!decide (ArcV a b)) (K (Value.tuple #[Value.agg #[Value.int IntKind.i64 0, Value.int IntKind.i64 0], Value.int IntKind.i64 1]))
 (bcase (decide (n < -1048576)) (K (Value.tuple #[Value.agg #[Value.int IntKind.i64 0, Value.int IntKind.i64 0], Value.int IntKind.i64 2]))
 (bcase (decide (n > 1048576)) (K (Value.tuple #[Value.agg #[Value.int IntKind.i64 0, Value.int IntKind.i64 0], Value.int IntKind.i64 2]))
 (bcase (decide (d < 1)) (K (Value.tuple #[Value.agg #[Value.int IntKind.i64 0, Value.int IntKind.i64 0], Value.int IntKind.i64 2]))
 (bcase (decide (d > 1048576)) (K (Value.tuple #[Value.agg #[Value.int IntKind.i64 0, Value.int IntKind.i64 0], Value.int IntKind.i64 2]))
 (FlOk (if IntKind.i64.wrap (b * n) < IntKind.i64.wrap (a * n) then IntKind.i64.wrap (b * n) else IntKind.i64.wrap (a * n)) d ∧
 FlOk (IntKind.i64.wrap (0 - if IntKind.i64.wrap (b * n) > IntKind.i64.wrap (a * n) then IntKind.i64.wrap (b * n) else IntKind.i64.wrap (a * n))) d ∧
 RsOk ((if IntKind.i64.wrap (b * n) < IntKind.i64.wrap (a * n) then IntKind.i64.wrap (b * n) else IntKind.i64.wrap (a * n)) / d) (IntKind.i64.wrap (0 - IntKind.i64.wrap (0 - if IntKind.i64.wrap (b * n) > IntKind.i64.wrap (a * n) then IntKind.i64.wrap (b * n) else IntKind.i64.wrap (a * n)) / d)) ∧
 K (Value.tuple #[Value.agg #[Value.int IntKind.i64 ((if IntKind.i64.wrap (b * n) < IntKind.i64.wrap (a * n) then IntKind.i64.wrap (b * n) else IntKind.i64.wrap (a * n)) / d), Value.int IntKind.i64 (IntKind.i64.wrap (0 - IntKind.i64.wrap (0 - if IntKind.i64.wrap (b * n) > IntKind.i64.wrap (a * n) then IntKind.i64.wrap (b * n) else IntKind.i64.wrap (a * n)) / d))], Value.int IntKind.i64 0]))))))) := by kernel_rfl
theorem vc_anadd (a b c d : Int) (K : Value → Prop) : callsX Tryz.prog (ΓTi) (noAnn) 62 [wid a b, wid c d] K = (
 True ∧
 bcase (!decide (ArcV a b)) (K (Value.tuple #[Value.agg #[Value.int IntKind.i64 0, Value.int IntKind.i64 0], Value.int IntKind.i64 1]))
 (True ∧ bcase (!decide (ArcV c d)) (K (Value.tuple #[Value.agg #[Value.int IntKind.i64 0, Value.int IntKind.i64 0], Value.int IntKind.i64 1])) (RsOk (IntKind.i64.wrap (a + c)) (IntKind.i64.wrap (b + d)) ∧ K (Value.tuple #[Value.agg #[Value.int IntKind.i64 (IntKind.i64.wrap (a + c)), Value.int IntKind.i64 (IntKind.i64.wrap (b + d))], Value.int IntKind.i64 0])))) := by kernel_rfl
theorem vc_hasin (k : Nat) (a b : Int) (K : Value → Prop) : callsX Tryz.prog (ΓHm k) (noAnn) 49 [ptr k, wid a b] K = (
 ArcV a b ∧ KpOk k k 0 ∧ K (Value.agg #[Value.int IntKind.i64 (encL a b), Value.int IntKind.i64 (encH a b)])) := by kernel_rfl
theorem vc_hacos (k : Nat) (a b : Int) (K : Value → Prop) : callsX Tryz.prog (ΓHm k) (noAnn) 53 [ptr k, wid a b] K = (
 ArcV a b ∧ KpOk k k 0 ∧ K (Value.agg #[Value.int IntKind.i64 (cL a b), Value.int IntKind.i64 (cH a b)])) := by kernel_rfl
theorem vc_hamul (k : Nat) (a b c d : Int) (K : Value → Prop) : callsX Tryz.prog (ΓHm k) (noAnn) 48 [ptr k, wid a b, wid c d] K = (
 (FixO a b ∧ FixO c d) ∧ KpOk k k 0 ∧ K (Value.agg #[Value.int IntKind.i64 (muL a b c d), Value.int IntKind.i64 (muH a b c d)])) := by kernel_rfl
theorem vc_haplus (k : Nat) (a b c d : Int) (K : Value → Prop) : callsX Tryz.prog (ΓHm k) (noAnn) 47 [ptr k, wid a b, wid c d] K = (
 Q37s a b c d ∧ KpOk k k 0 ∧ K (Value.agg #[Value.int IntKind.i64 (a + c), Value.int IntKind.i64 (b + d)])) := by kernel_rfl
theorem vc_haminus (k : Nat) (a b c d : Int) (K : Value → Prop) : callsX Tryz.prog (ΓHm k) (noAnn) 46 [ptr k, wid a b, wid c d] K = (
 Q37s a b c d ∧ KpOk k k 0 ∧ K (Value.agg #[Value.int IntKind.i64 (a - d), Value.int IntKind.i64 (b - c)])) := by kernel_rfl
theorem vc_hapart (k : Nat) (a b n d : Int) (K : Value → Prop) : callsX Tryz.prog (ΓHm k) (noAnn) 45 [ptr k, wid a b, num n, num d] K = (
 TmOk a b n d ∧ KpOk k k 0 ∧ K (Value.agg #[Value.int IntKind.i64 (tmL a n d), Value.int IntKind.i64 (tmH b n d)])) := by kernel_rfl
theorem vc_habearing (k : Nat) (a b c d : Int) (K : Value → Prop) : callsX Tryz.prog (ΓHm k) (noAnn) 55 [ptr k, wid a b, wid c d] K = (
 BgOk a b c d ∧ KpOk k k 0 ∧ K (Value.agg #[Value.int IntKind.i64 (bL a b c d), Value.int IntKind.i64 (bH a b c d)])) := by kernel_rfl
theorem vc_haside (a b : Int) (K : Value → Prop) : callsX Tryz.prog (ΓAv) (noAnn) 44 [wid a b] K = (
 True ∧ bcase (decide (ArcV a b)) (bcase (decide (a ≥ 0)) (K (Value.bool (decide (b ≤ 10800000)))) (K (Value.bool false))) (K (Value.bool false))) := by kernel_rfl
theorem vc_fxdiv (a b c d : Int) (K : Value → Prop) : callsX Tryz.prog (ΓDv) (ADv) 50 [wid a b, wid c d] K = (
 True ∧
 bcase (!decide (FixV a b ∧ FixV c d)) (K (Value.tuple #[Value.agg #[Value.int IntKind.i64 0, Value.int IntKind.i64 0], Value.int IntKind.i64 1]))
 (True ∧
 bcase (decide (c ≤ 0 ∧ 0 ≤ d)) (K (Value.tuple #[Value.agg #[Value.int IntKind.i64 0, Value.int IntKind.i64 0], Value.int IntKind.i64 16]))
 ((Q62 (IntKind.i64.wrap (a * 1073741824)) ∧ PsD c) ∧
 (Q62 (IntKind.i64.wrap (a * 1073741824)) ∧ PsD c) ∧
 (Q62 (IntKind.i64.wrap (a * 1073741824)) ∧ PsD c) ∧
 (Q62 (IntKind.i64.wrap (a * 1073741824)) ∧ PsD c) ∧
 (Q62 (IntKind.i64.wrap (a * 1073741824)) ∧ PsD d) ∧
 (Q62 (IntKind.i64.wrap (a * 1073741824)) ∧ PsD d) ∧
 (Q62 (IntKind.i64.wrap (b * 1073741824)) ∧ PsD c) ∧
 (Q62 (IntKind.i64.wrap (b * 1073741824)) ∧ PsD c) ∧
 (Q62 (IntKind.i64.wrap (b * 1073741824)) ∧ PsD d) ∧
 (Q62 (IntKind.i64.wrap (b * 1073741824)) ∧ PsD d) ∧
 True ∧
 bcase
 (!decide
 (FixV
 (if
 IntKind.i64.wrap (b * 1073741824) / d <
 if
 IntKind.i64.wrap (b * 1073741824) / c <
 if IntKind.i64.wrap (a * 1073741824) / d < if IntKind.i64.wrap (a * 1073741824) / c < IntKind.i64.wrap (a * 1073741824) / c then IntKind.i64.wrap (a * 1073741824) / c else IntKind.i64.wrap (a * 1073741824) / c then IntKind.i64.wrap (a * 1073741824) / d
 else if IntKind.i64.wrap (a * 1073741824) / c < IntKind.i64.wrap (a * 1073741824) / c then IntKind.i64.wrap (a * 1073741824) / c else IntKind.i64.wrap (a * 1073741824) / c then
 IntKind.i64.wrap (b * 1073741824) / c
 else
 if IntKind.i64.wrap (a * 1073741824) / d < if IntKind.i64.wrap (a * 1073741824) / c < IntKind.i64.wrap (a * 1073741824) / c then IntKind.i64.wrap (a * 1073741824) / c else IntKind.i64.wrap (a * 1073741824) / c then IntKind.i64.wrap (a * 1073741824) / d
 else if IntKind.i64.wrap (a * 1073741824) / c < IntKind.i64.wrap (a * 1073741824) / c then IntKind.i64.wrap (a * 1073741824) / c else IntKind.i64.wrap (a * 1073741824) / c then
 IntKind.i64.wrap (b * 1073741824) / d
 else
 if
 IntKind.i64.wrap (b * 1073741824) / c <
 if IntKind.i64.wrap (a * 1073741824) / d < if IntKind.i64.wrap (a * 1073741824) / c < IntKind.i64.wrap (a * 1073741824) / c then IntKind.i64.wrap (a * 1073741824) / c else IntKind.i64.wrap (a * 1073741824) / c then IntKind.i64.wrap (a * 1073741824) / d
 else if IntKind.i64.wrap (a * 1073741824) / c < IntKind.i64.wrap (a * 1073741824) / c then IntKind.i64.wrap (a * 1073741824) / c else IntKind.i64.wrap (a * 1073741824) / c then
 IntKind.i64.wrap (b * 1073741824) / c
 else
 if IntKind.i64.wrap (a * 1073741824) / d < if IntKind.i64.wrap (a * 1073741824) / c < IntKind.i64.wrap (a * 1073741824) / c then IntKind.i64.wrap (a * 1073741824) / c else IntKind.i64.wrap (a * 1073741824) / c then IntKind.i64.wrap (a * 1073741824) / d
 else if IntKind.i64.wrap (a * 1073741824) / c < IntKind.i64.wrap (a * 1073741824) / c then IntKind.i64.wrap (a * 1073741824) / c else IntKind.i64.wrap (a * 1073741824) / c)
 (if
 -(-IntKind.i64.wrap (b * 1073741824) / d) >
 if
 -(-IntKind.i64.wrap (b * 1073741824) / c) >
 if -(-IntKind.i64.wrap (a * 1073741824) / d) > if -(-IntKind.i64.wrap (a * 1073741824) / c) > -(-IntKind.i64.wrap (a * 1073741824) / c) then -(-IntKind.i64.wrap (a * 1073741824) / c) else -(-IntKind.i64.wrap (a * 1073741824) / c) then -(-IntKind.i64.wrap (a * 1073741824) / d)
 else if -(-IntKind.i64.wrap (a * 1073741824) / c) > -(-IntKind.i64.wrap (a * 1073741824) / c) then -(-IntKind.i64.wrap (a * 1073741824) / c) else -(-IntKind.i64.wrap (a * 1073741824) / c) then
 -(-IntKind.i64.wrap (b * 1073741824) / c)
 else
 if -(-IntKind.i64.wrap (a * 1073741824) / d) > if -(-IntKind.i64.wrap (a * 1073741824) / c) > -(-IntKind.i64.wrap (a * 1073741824) / c) then -(-IntKind.i64.wrap (a * 1073741824) / c) else -(-IntKind.i64.wrap (a * 1073741824) / c) then -(-IntKind.i64.wrap (a * 1073741824) / d)
 else if -(-IntKind.i64.wrap (a * 1073741824) / c) > -(-IntKind.i64.wrap (a * 1073741824) / c) then -(-IntKind.i64.wrap (a * 1073741824) / c) else -(-IntKind.i64.wrap (a * 1073741824) / c) then
 -(-IntKind.i64.wrap (b * 1073741824) / d)
 else
 if
 -(-IntKind.i64.wrap (b * 1073741824) / c) >
 if -(-IntKind.i64.wrap (a * 1073741824) / d) > if -(-IntKind.i64.wrap (a * 1073741824) / c) > -(-IntKind.i64.wrap (a * 1073741824) / c) then -(-IntKind.i64.wrap (a * 1073741824) / c) else -(-IntKind.i64.wrap (a * 1073741824) / c) then -(-IntKind.i64.wrap (a * 1073741824) / d)
 else if -(-IntKind.i64.wrap (a * 1073741824) / c) > -(-IntKind.i64.wrap (a * 1073741824) / c) then -(-IntKind.i64.wrap (a * 1073741824) / c) else -(-IntKind.i64.wrap (a * 1073741824) / c) then
 -(-IntKind.i64.wrap (b * 1073741824) / c)
 else
 if -(-IntKind.i64.wrap (a * 1073741824) / d) > if -(-IntKind.i64.wrap (a * 1073741824) / c) > -(-IntKind.i64.wrap (a * 1073741824) / c) then -(-IntKind.i64.wrap (a * 1073741824) / c) else -(-IntKind.i64.wrap (a * 1073741824) / c) then -(-IntKind.i64.wrap (a * 1073741824) / d)
 else if -(-IntKind.i64.wrap (a * 1073741824) / c) > -(-IntKind.i64.wrap (a * 1073741824) / c) then -(-IntKind.i64.wrap (a * 1073741824) / c) else -(-IntKind.i64.wrap (a * 1073741824) / c))))
 (K (Value.tuple #[Value.agg #[Value.int IntKind.i64 0, Value.int IntKind.i64 0], Value.int IntKind.i64 5]))
 (K
 (Value.tuple
 #[Value.agg
 #[Value.int IntKind.i64
 (if
 IntKind.i64.wrap (b * 1073741824) / d <
 if
 IntKind.i64.wrap (b * 1073741824) / c <
 if IntKind.i64.wrap (a * 1073741824) / d < if IntKind.i64.wrap (a * 1073741824) / c < IntKind.i64.wrap (a * 1073741824) / c then IntKind.i64.wrap (a * 1073741824) / c else IntKind.i64.wrap (a * 1073741824) / c then IntKind.i64.wrap (a * 1073741824) / d
 else if IntKind.i64.wrap (a * 1073741824) / c < IntKind.i64.wrap (a * 1073741824) / c then IntKind.i64.wrap (a * 1073741824) / c else IntKind.i64.wrap (a * 1073741824) / c then
 IntKind.i64.wrap (b * 1073741824) / c
 else
 if IntKind.i64.wrap (a * 1073741824) / d < if IntKind.i64.wrap (a * 1073741824) / c < IntKind.i64.wrap (a * 1073741824) / c then IntKind.i64.wrap (a * 1073741824) / c else IntKind.i64.wrap (a * 1073741824) / c then IntKind.i64.wrap (a * 1073741824) / d
 else if IntKind.i64.wrap (a * 1073741824) / c < IntKind.i64.wrap (a * 1073741824) / c then IntKind.i64.wrap (a * 1073741824) / c else IntKind.i64.wrap (a * 1073741824) / c then
 IntKind.i64.wrap (b * 1073741824) / d
 else
 if
 IntKind.i64.wrap (b * 1073741824) / c <
 if IntKind.i64.wrap (a * 1073741824) / d < if IntKind.i64.wrap (a * 1073741824) / c < IntKind.i64.wrap (a * 1073741824) / c then IntKind.i64.wrap (a * 1073741824) / c else IntKind.i64.wrap (a * 1073741824) / c then IntKind.i64.wrap (a * 1073741824) / d
 else if IntKind.i64.wrap (a * 1073741824) / c < IntKind.i64.wrap (a * 1073741824) / c then IntKind.i64.wrap (a * 1073741824) / c else IntKind.i64.wrap (a * 1073741824) / c then
 IntKind.i64.wrap (b * 1073741824) / c
 else
 if IntKind.i64.wrap (a * 1073741824) / d < if IntKind.i64.wrap (a * 1073741824) / c < IntKind.i64.wrap (a * 1073741824) / c then IntKind.i64.wrap (a * 1073741824) / c else IntKind.i64.wrap (a * 1073741824) / c then IntKind.i64.wrap (a * 1073741824) / d
 else if IntKind.i64.wrap (a * 1073741824) / c < IntKind.i64.wrap (a * 1073741824) / c then IntKind.i64.wrap (a * 1073741824) / c else IntKind.i64.wrap (a * 1073741824) / c),
 Value.int IntKind.i64
 (if
 -(-IntKind.i64.wrap (b * 1073741824) / d) >
 if
 -(-IntKind.i64.wrap (b * 1073741824) / c) >
 if -(-IntKind.i64.wrap (a * 1073741824) / d) > if -(-IntKind.i64.wrap (a * 1073741824) / c) > -(-IntKind.i64.wrap (a * 1073741824) / c) then -(-IntKind.i64.wrap (a * 1073741824) / c) else -(-IntKind.i64.wrap (a * 1073741824) / c) then -(-IntKind.i64.wrap (a * 1073741824) / d)
 else if -(-IntKind.i64.wrap (a * 1073741824) / c) > -(-IntKind.i64.wrap (a * 1073741824) / c) then -(-IntKind.i64.wrap (a * 1073741824) / c) else -(-IntKind.i64.wrap (a * 1073741824) / c) then
 -(-IntKind.i64.wrap (b * 1073741824) / c)
 else
 if -(-IntKind.i64.wrap (a * 1073741824) / d) > if -(-IntKind.i64.wrap (a * 1073741824) / c) > -(-IntKind.i64.wrap (a * 1073741824) / c) then -(-IntKind.i64.wrap (a * 1073741824) / c) else -(-IntKind.i64.wrap (a * 1073741824) / c) then -(-IntKind.i64.wrap (a * 1073741824) / d)
 else if -(-IntKind.i64.wrap (a * 1073741824) / c) > -(-IntKind.i64.wrap (a * 1073741824) / c) then -(-IntKind.i64.wrap (a * 1073741824) / c) else -(-IntKind.i64.wrap (a * 1073741824) / c) then
 -(-IntKind.i64.wrap (b * 1073741824) / d)
 else
 if
 -(-IntKind.i64.wrap (b * 1073741824) / c) >
 if -(-IntKind.i64.wrap (a * 1073741824) / d) > if -(-IntKind.i64.wrap (a * 1073741824) / c) > -(-IntKind.i64.wrap (a * 1073741824) / c) then -(-IntKind.i64.wrap (a * 1073741824) / c) else -(-IntKind.i64.wrap (a * 1073741824) / c) then -(-IntKind.i64.wrap (a * 1073741824) / d)
 else if -(-IntKind.i64.wrap (a * 1073741824) / c) > -(-IntKind.i64.wrap (a * 1073741824) / c) then -(-IntKind.i64.wrap (a * 1073741824) / c) else -(-IntKind.i64.wrap (a * 1073741824) / c) then
 -(-IntKind.i64.wrap (b * 1073741824) / c)
 else
 if -(-IntKind.i64.wrap (a * 1073741824) / d) > if -(-IntKind.i64.wrap (a * 1073741824) / c) > -(-IntKind.i64.wrap (a * 1073741824) / c) then -(-IntKind.i64.wrap (a * 1073741824) / c) else -(-IntKind.i64.wrap (a * 1073741824) / c) then -(-IntKind.i64.wrap (a * 1073741824) / d)
 else if -(-IntKind.i64.wrap (a * 1073741824) / c) > -(-IntKind.i64.wrap (a * 1073741824) / c) then -(-IntKind.i64.wrap (a * 1073741824) / c) else -(-IntKind.i64.wrap (a * 1073741824) / c))],
 Value.int IntKind.i64 0]))))) := by kernel_rfl
theorem vc_fxceilP (n d : Int) (K : Value → Prop) : callsX Tryz.prog ([(88, .v sFlP)]) (noAnn) 89 [num n, num d] K = (
 (Q62 (IntKind.i64.wrap (0 - n)) ∧ PsD d) ∧ K (Value.int IntKind.i64 (IntKind.i64.wrap (0 - IntKind.i64.wrap (0 - n) / d)))) := by kernel_rfl
theorem vc_fxroot (n : Int) (K : Value → Prop) : callsX Tryz.prog ([]) (ARt n) 95 [num n] K = (
 ∃ (s : Nat × Int × Int),
 (n = n ∧ Int.ofNat 0 = 0 ∧ 0 = s.snd.snd ∧ 2147483648 = s.snd.fst ∧ True) ∧
 RtR n s.fst s.snd.fst s.snd.snd ∧
 ∀ (s : Nat × Int × Int),
 RtR n s.fst s.snd.fst s.snd.snd →
 bcase (decide (s.snd.fst > 0))
 (bcase (decide (IntKind.i64.wrap (IntKind.i64.wrap (s.snd.snd + s.snd.fst) * IntKind.i64.wrap (s.snd.snd + s.snd.fst)) ≤ n)) (∃ (s_1 : Nat × Int × Int), (n = n ∧ Int.ofNat 0 = 0 ∧ IntKind.i64.wrap (s.snd.snd + s.snd.fst) = s_1.snd.snd ∧ s.snd.fst.fdiv (2 ^ 1) = s_1.snd.fst ∧ True) ∧ RtR n s_1.fst s_1.snd.fst s_1.snd.snd ∧ s_1.fst < s.fst)
 (∃ (s_1 : Nat × Int × Int), (n = n ∧ Int.ofNat 0 = 0 ∧ s.snd.snd = s_1.snd.snd ∧ s.snd.fst.fdiv (2 ^ 1) = s_1.snd.fst ∧ True) ∧ RtR n s_1.fst s_1.snd.fst s_1.snd.snd ∧ s_1.fst < s.fst))
 (K (Value.int IntKind.i64 s.snd.snd))) := by kernel_rfl
theorem vc_fxsqrt (a b : Int) (rt : Int → Int) (K : Value → Prop) : callsX Tryz.prog (ΓSq rt) (noAnn) 54 [wid a b] K = (
 True ∧
 bcase (!decide (FixV a b)) (K (Value.tuple #[Value.agg #[Value.int IntKind.i64 0, Value.int IntKind.i64 0], Value.int IntKind.i64 1]))
 (bcase (decide (b < 0)) (K (Value.tuple #[Value.agg #[Value.int IntKind.i64 0, Value.int IntKind.i64 0], Value.int IntKind.i64 2]))
 (RtOk (IntKind.i64.wrap (b * 1073741824)) ∧
 bcase (decide (IntKind.i64.wrap (rt (IntKind.i64.wrap (b * 1073741824)) * rt (IntKind.i64.wrap (b * 1073741824))) < IntKind.i64.wrap (b * 1073741824)))
 (RtOk (IntKind.i64.wrap ((if a > 0 then a else 0) * 1073741824)) ∧
 True ∧
 bcase (!decide (FixV (rt (IntKind.i64.wrap ((if a > 0 then a else 0) * 1073741824))) (IntKind.i64.wrap (rt (IntKind.i64.wrap (b * 1073741824)) + 1)))) (K (Value.tuple #[Value.agg #[Value.int IntKind.i64 0, Value.int IntKind.i64 0], Value.int IntKind.i64 5]))
 (K (Value.tuple #[Value.agg #[Value.int IntKind.i64 (rt (IntKind.i64.wrap ((if a > 0 then a else 0) * 1073741824))), Value.int IntKind.i64 (IntKind.i64.wrap (rt (IntKind.i64.wrap (b * 1073741824)) + 1))], Value.int IntKind.i64 0])))
 (RtOk (IntKind.i64.wrap ((if a > 0 then a else 0) * 1073741824)) ∧
 True ∧
 bcase (!decide (FixV (rt (IntKind.i64.wrap ((if a > 0 then a else 0) * 1073741824))) (rt (IntKind.i64.wrap (b * 1073741824))))) (K (Value.tuple #[Value.agg #[Value.int IntKind.i64 0, Value.int IntKind.i64 0], Value.int IntKind.i64 5]))
 (K (Value.tuple #[Value.agg #[Value.int IntKind.i64 (rt (IntKind.i64.wrap ((if a > 0 then a else 0) * 1073741824))), Value.int IntKind.i64 (rt (IntKind.i64.wrap (b * 1073741824)))], Value.int IntKind.i64 0])))))) := by kernel_rfl
end Go.Proofs.YtjdcicjhpegphaaGreat
namespace Go.Proofs.YtjdcicjhpegphaaGreat
open Go Go.Abs Go.RowKit Go.Sine
theorem ed_bound {n d M : Int} (hd : 0 < d) (hM : 0 ≤ M) (h1 : -M ≤ n) (h2 : n ≤ M) : -M ≤ n / d ∧ n / d ≤ M := by
  have k : M * 1 ≤ M * d := Int.mul_le_mul_of_nonneg_left (by omega) hM
  constructor
  · apply Int.le_ediv_of_mul_le hd
    rw [Int.neg_mul]
    omega
  · exact Int.ediv_le_of_le_mul hd (by omega)
theorem td_pos {n d : Int} (hd : 0 < d) : (n.tmod d = 0 ∧ n.tdiv d = n / d) ∨ (n.tmod d ≠ 0 ∧ 0 ≤ n ∧ n.tdiv d = n / d) ∨ (n.tmod d ≠ 0 ∧ n < 0 ∧ n.tdiv d = n / d + 1) := by
  have e1 := Int.mul_tdiv_add_tmod n d
  have e2 := Int.mul_ediv_add_emod n d
  have e3 := Int.tmod_eq_emod (a := n) (b := d)
  have r0 := Int.emod_nonneg n (show d ≠ 0 by omega)
  have r1 := Int.emod_lt_of_pos n hd
  have na : (d.natAbs : Int) = d := by omega
  have same : d * n.tdiv d = d * (n / d) → n.tdiv d = n / d := fun h => Int.eq_of_mul_eq_mul_left (by omega) h
  by_cases c : 0 ≤ n ∨ d ∣ n
  · rw [if_pos c] at e3
    have t := same (by omega)
    by_cases z : n.tmod d = 0
    · exact .inl ⟨z, t⟩
    · refine .inr (.inl ⟨z, ?_, t⟩)
      rcases c with c | c
      · exact c
      · have := Int.emod_eq_zero_of_dvd c
        omega
  · rw [if_neg c, na] at e3
    have n0 : n < 0 := by omega
    refine .inr (.inr ⟨by omega, n0, ?_⟩)
    have : d * n.tdiv d = d * (n / d + 1) := by rw [Int.mul_add]; omega
    exact Int.eq_of_mul_eq_mul_left (by omega) this
section
variable {Φ : World → Prop} (hst : ∀ w w', Φ w → Below w.heap.size w w' → Φ w')
include hst
theorem c_flP {n d : Int} (h : Q62 n ∧ PsD d) : Ans Tryz.prog Φ 88 [num n, num d] (num (n / d)) := by
  obtain ⟨h, k⟩ := h
  unfold PsD at k
  refine fn_by hst Sound.nil (vc_fxfloor n d _) ?_
  unfold Q62 at h
  have b := ed_bound (n := n) (M := 4611686018427387904) k.1 (by decide) h.1 h.2
  have hd : decide (d < 0) = false := decide_eq_false (by omega)
  have dz : (d == 0) = false := by simp; omega
  rw [hd, dz]
  refine bcase_iff.mpr ⟨fun q => absurd q (by decide), fun _ => bcase_iff.mpr ⟨fun q => absurd q (by decide), fun _ => ?_⟩⟩
  rcases td_pos (n := n) k.1 with ⟨t1, t2⟩ | ⟨t1, t2, t3⟩ | ⟨t1, t2, t3⟩
  · rw [t1, t2, wrap_in (n := n / d) (by omega)]
    exact bcase_iff.mpr ⟨fun q => absurd q (by decide), fun _ => rfl⟩
  · rw [t3, wrap_in (n := n / d) (by omega)]
    refine bcase_iff.mpr ⟨fun q => bcase_iff.mpr ⟨fun r => ?_, fun r => rfl⟩, fun q => rfl⟩
    rw [decide_eq_false (by omega)] at r
    cases r
  · rw [t3, wrap_in (n := n / d + 1) (by omega), wrap_in (by omega)]
    refine bcase_iff.mpr ⟨fun q => bcase_iff.mpr ⟨fun r => congrArg (Value.int .i64) (by omega), fun r => ?_⟩, fun q => ?_⟩
    · rw [decide_eq_true t2] at r
      cases r
    · have q : n.tmod d = 0 := by simpa using q
      omega
theorem c_ceP {n d : Int} (h : Q62 n ∧ PsD d) : Ans Tryz.prog Φ 89 [num n, num d] (num (-(-n / d))) := by
  refine fn_by hst (Sound.cons (by kernel_rfl) (fun args p v h hp => by unfold sFlP at h; split at h <;> cases h; exact c_flP hst hp) Sound.nil) (vc_fxceilP n d _) ?_
  obtain ⟨h, k⟩ := h
  unfold Q62 at h
  have k1 := k.1
  have b := ed_bound (n := -n) (M := 4611686018427387904) k1 (by decide) (by omega) (by omega)
  have e0 : IntKind.i64.wrap (0 - n) = -n := by rw [wrap_in (by omega)]; omega
  have e1 : IntKind.i64.wrap (0 - -n / d) = -(-n / d) := by rw [wrap_in (by omega)]; omega
  rw [e0, e1]
  exact ⟨⟨by unfold Q62; omega, k⟩, rfl⟩
theorem s_Dv : Sound Tryz.prog Φ ΓDv :=
  Sound.cons (by kernel_rfl) (fun args p v h hp => by unfold sFxBoth at h; split at h <;> cases h; exact c_fxboth hst _ _ _ _)
  (Sound.cons (by kernel_rfl) (fun args p v h hp => by unfold sFxValid at h; split at h <;> cases h; exact c_fxvalid hst _ _)
  (Sound.cons (by kernel_rfl) (fun args p v h hp => by unfold sZe at h; split at h <;> cases h; exact c_fxzero hst _ _)
  (Sound.cons (by kernel_rfl) (fun args p v h hp => by unfold sFlP at h; split at h <;> cases h; exact c_flP hst hp)
  (Sound.cons (by kernel_rfl) (fun args p v h hp => by unfold sCeP at h; split at h <;> cases h; exact c_ceP hst hp) Sound.nil))))
theorem h_dvP : ∀ args p Q, qDv args = some (p, Q) → p → ∀ K, Q K → ∃ v, Ans Tryz.prog Φ 50 args v ∧ K v := by
  intro args p Q h hp K hK
  unfold qDv at h
  split at h <;> cases h
  rename_i a b c d
  obtain ⟨h1, h2, d0⟩ := hp
  have g1 := h1
  have g2 := h2
  unfold FixO at g1 g2
  have v1 : FixV a b ∧ FixV c d := ⟨h1.v, h2.v⟩
  have wa : IntKind.i64.wrap (a * 1073741824) = a * 1073741824 := wrap_in (by omega)
  have wb : IntKind.i64.wrap (b * 1073741824) = b * 1073741824 := wrap_in (by omega)
  have qa : Q62 (a * 1073741824) := by unfold Q62; omega
  have qb : Q62 (b * 1073741824) := by unfold Q62; omega
  by_cases hc : c ≤ 0
  · refine ⟨pair (wid 0 0) (num 16), fn_by hst (s_Dv hst) (vc_fxdiv a b c d _) ?_, hK 0 0 16 ⟨.inl ⟨rfl, hc⟩⟩⟩
    rw [decide_eq_true v1, decide_eq_true (show c ≤ 0 ∧ 0 ≤ d from ⟨hc, d0⟩)]
    exact ⟨trivial, trivial, rfl⟩
  · have pc : PsD c := by unfold PsD; omega
    have pd : PsD d := by unfold PsD; omega
    by_cases hv : FixV (dvL a b c d) (dvH a b c d)
    · refine ⟨pair (wid (dvL a b c d) (dvH a b c d)) (num 0), fn_by hst (s_Dv hst) (vc_fxdiv a b c d _) ?_, hK _ _ 0 ⟨.inr (.inr ⟨rfl, by omega, hv, rfl, rfl⟩)⟩⟩
      rw [decide_eq_true v1, decide_eq_false (show ¬ (c ≤ 0 ∧ 0 ≤ d) from fun h => hc h.1), wa, wb]
      simp only [min_lt, max_gt, Int.min_self, Int.max_self]
      refine ⟨trivial, trivial, ⟨qa, pc⟩, ⟨qa, pc⟩, ⟨qa, pc⟩, ⟨qa, pc⟩, ⟨qa, pd⟩, ⟨qa, pd⟩, ⟨qb, pc⟩, ⟨qb, pc⟩, ⟨qb, pd⟩, ⟨qb, pd⟩, trivial, ?_⟩
      have hv' := decide_eq_true hv
      unfold dvL dvH at hv'
      rw [hv']
      first
      | exact rfl
      | exact trivial
    · refine ⟨pair (wid 0 0) (num 5), fn_by hst (s_Dv hst) (vc_fxdiv a b c d _) ?_, hK 0 0 5 ⟨.inr (.inl ⟨rfl, by omega, hv⟩)⟩⟩
      rw [decide_eq_true v1, decide_eq_false (show ¬ (c ≤ 0 ∧ 0 ≤ d) from fun h => hc h.1), wa, wb]
      simp only [min_lt, max_gt, Int.min_self, Int.max_self]
      refine ⟨trivial, trivial, ⟨qa, pc⟩, ⟨qa, pc⟩, ⟨qa, pc⟩, ⟨qa, pc⟩, ⟨qa, pd⟩, ⟨qa, pd⟩, ⟨qb, pc⟩, ⟨qb, pc⟩, ⟨qb, pd⟩, ⟨qb, pd⟩, trivial, ?_⟩
      have hv' := decide_eq_false hv
      unfold dvL dvH at hv'
      rw [hv']
      first
      | exact rfl
      | exact trivial
end
end Go.Proofs.YtjdcicjhpegphaaGreat
namespace Go.Proofs.YtjdcicjhpegphaaGreat
open Go Go.Abs Go.RowKit Go.Sine
theorem p2_le (f : Nat) : ∀ d : Nat, (2 : Int) ^ f ≤ 2 ^ (f + d)
  | 0 => Int.le_refl _
  | d + 1 => by
    have h := p2_le f d
    have p : (0 : Int) < 2 ^ (f + d) := Int.pow_pos (by decide)
    rw [show f + (d + 1) = f + d + 1 from rfl, Int.pow_succ]
    omega
theorem p2_mono {f g : Nat} (h : f ≤ g) : (2 : Int) ^ f ≤ 2 ^ g := by
  obtain ⟨d, rfl⟩ := Nat.exists_eq_add_of_le h
  exact p2_le f d
theorem Q37.arc {a b : Int} (h : Q37 a b) : ArcV a b := by unfold Q37 at h; unfold ArcV; omega
section
variable {Φ : World → Prop} (hst : ∀ w w', Φ w → Below w.heap.size w w' → Φ w')
include hst
theorem c_anfloorS {n d : Int} (h : FlOk n d) : Ans Tryz.prog Φ 128 [num n, num d] (num (n / d)) := by
  obtain ⟨h, k⟩ := h
  unfold Sm4 at k
  refine fn_by hst Sound.nil (vc_anfloor n d _) ?_
  have b := ed_bound (n := n) (d := d) (M := 1099511627776) (by omega) (by decide) h.1 h.2
  have dz : (d == 0) = false := by simp; omega
  simp only [dz, bcase_false]
  rcases td_pos (n := n) (show 0 < d by omega) with ⟨t1, t2⟩ | ⟨t1, t2, t3⟩ | ⟨t1, t2, t3⟩
  · rw [t1, t2, wrap_in (n := n / d) (by omega)]
    exact bcase_iff.mpr ⟨fun q => absurd (of_decide_eq_true q) (by omega), fun _ => rfl⟩
  · rw [t3, wrap_in (n := n / d) (by omega)]
    have p : 0 ≤ n.tmod d := Int.tmod_nonneg d t2
    exact bcase_iff.mpr ⟨fun q => absurd (of_decide_eq_true q) (by omega), fun _ => rfl⟩
  · rw [t3, wrap_in (n := n / d + 1) (by omega), wrap_in (by omega)]
    have p : n.tmod d < 0 := by
      have := Int.tmod_nonneg d (show 0 ≤ -n by omega)
      rw [Int.neg_tmod] at this
      omega
    refine bcase_iff.mpr ⟨fun _ => congrArg (Value.int .i64) (by omega), fun q => absurd p (of_decide_eq_false q)⟩
theorem c_anresult {a b : Int} (h : RsOk a b) : Ans Tryz.prog Φ 105 [num a, num b] (fxOk a b) := by
  refine fn_by hst Sound.nil (vc_anresult a b _) ?_
  unfold RsOk at h
  rw [decide_eq_true (show a ≥ -1099511627776 by omega), decide_eq_true (show a ≤ 1099511627776 by omega), decide_eq_true (show b ≥ -1099511627776 by omega), decide_eq_true (show b ≤ 1099511627776 by omega)]
  exact rfl
theorem s_Ti : Sound Tryz.prog Φ ΓTi :=
  Sound.cons (by kernel_rfl) (fun args p v h hp => by unfold sAnValid at h; split at h <;> cases h; exact c_anvalid hst _ _)
  (Sound.cons (by kernel_rfl) (fun args p v h hp => by unfold sAnFl at h; split at h <;> cases h; exact c_anfloorS hst hp)
  (Sound.cons (by kernel_rfl) (fun args p v h hp => by unfold sAnRs at h; split at h <;> cases h; exact c_anresult hst hp) Sound.nil))
theorem c_antimesS {a b n d : Int} (h : TmOk a b n d) : Ans Tryz.prog Φ 82 [wid a b, num n, num d] (fxOk (tmL a n d) (tmH b n d)) := by
  obtain ⟨h1, h2, h3⟩ := h
  have av := h1.arc
  unfold Q37 at h1
  unfold Sm4 at h2 h3
  refine fn_by hst (s_Ti hst) (vc_antimes a b n d _) ?_
  have an : -549755813888 ≤ a * n ∧ a * n ≤ b * n ∧ b * n ≤ 549755813888 := by
    have n4 : n = 1 ∨ n = 2 ∨ n = 3 ∨ n = 4 := by omega
    rcases n4 with e | e | e | e <;> subst e <;> omega
  have wa : IntKind.i64.wrap (a * n) = a * n := wrap_in (by omega)
  have wb : IntKind.i64.wrap (b * n) = b * n := wrap_in (by omega)
  have b1 := ed_bound (n := a * n) (d := d) (M := 549755813888) (by omega) (by decide) (by omega) (by omega)
  have b2 := ed_bound (n := -(b * n)) (d := d) (M := 549755813888) (by omega) (by decide) (by omega) (by omega)
  have i1 : (if b * n < a * n then b * n else a * n) = a * n := if_neg (by omega)
  have i2 : (if b * n > a * n then b * n else a * n) = b * n := by split <;> omega
  have w0 : IntKind.i64.wrap (0 - b * n) = -(b * n) := by rw [wrap_in (by omega)]; omega
  have w1 : IntKind.i64.wrap (0 - -(b * n) / d) = tmH b n d := by rw [wrap_in (by omega)]; unfold tmH; omega
  rw [wa, wb, i1, i2, w0, w1, decide_eq_true av, decide_eq_false (show ¬ n < -1048576 by omega), decide_eq_false (show ¬ n > 1048576 by omega), decide_eq_false (show ¬ d < 1 by omega), decide_eq_false (show ¬ d > 1048576 by omega)]
  have th : tmH b n d = -(-(b * n) / d) := rfl
  exact ⟨trivial, ⟨⟨by omega, by omega⟩, h3⟩, ⟨⟨by omega, by omega⟩, h3⟩, ⟨⟨by omega, by omega⟩, by omega, by omega⟩, rfl⟩
theorem c_anaddS {a b c d : Int} (h : Q37s a b c d) : Ans Tryz.prog Φ 62 [wid a b, wid c d] (fxOk (a + c) (b + d)) := by
  obtain ⟨h1, h2⟩ := h
  have v1 := h1.arc
  have v2 := h2.arc
  unfold Q37 at h1 h2
  refine fn_by hst (s_Ti hst) (vc_anadd a b c d _) ?_
  rw [decide_eq_true v1, decide_eq_true v2, wrap_in (n := a + c) (by omega), wrap_in (n := b + d) (by omega)]
  exact ⟨trivial, trivial, ⟨⟨by omega, by omega⟩, by omega, by omega⟩, rfl⟩
theorem c_ansubS {a b c d : Int} (h : Q37s a b c d) : Ans Tryz.prog Φ 68 [wid a b, wid c d] (fxOk (a - d) (b - c)) :=
  c_ansub hst ⟨h.1.arc, h.2.arc, by obtain ⟨h1, h2⟩ := h; unfold Q37 at h1 h2; unfold ArcV; omega⟩
theorem s_Hm (k : Nat) (T : TypeId) : Sound Tryz.prog (Zc Φ k T) (ΓHm k) :=
  Sound.cons (by kernel_rfl) (fun args p v h hp => by unfold sKeep at h; split at h <;> cases h; obtain ⟨h1, h2⟩ := hp; subst h1 h2; exact c_hafix _ _)
  (Sound.cons (by kernel_rfl) (fun args p v h hp => by unfold sKeep at h; split at h <;> cases h; obtain ⟨h1, h2⟩ := hp; subst h1 h2; exact c_haarc _ _)
  (Sound.cons (by kernel_rfl) (fun args p v h hp => by unfold sMulO at h; split at h <;> cases h; exact c_fxmul (zc_below hst k T) hp)
  (Sound.cons (by kernel_rfl) (fun args p v h hp => by unfold sTrSin at h; split at h <;> cases h; exact t_sin (zc_below hst k T) hp)
  (Sound.cons (by kernel_rfl) (fun args p v h hp => by unfold sTrSin at h; split at h <;> cases h; exact t_cos (zc_below hst k T) hp)
  (Sound.cons (by kernel_rfl) (fun args p v h hp => by unfold sAnAd at h; split at h <;> cases h; exact c_anaddS (zc_below hst k T) hp)
  (Sound.cons (by kernel_rfl) (fun args p v h hp => by unfold sAnSb at h; split at h <;> cases h; exact c_ansubS (zc_below hst k T) hp)
  (Sound.cons (by kernel_rfl) (fun args p v h hp => by unfold sAnTm at h; split at h <;> cases h; exact c_antimesS (zc_below hst k T) hp)
  (Sound.cons (by kernel_rfl) (fun args p v h hp => by unfold sBrg at h; split at h <;> cases h; exact c_atbearing (zc_below hst k T) hp.1 hp.2) Sound.nil))))))))
theorem m_hasin {k : Nat} {T : TypeId} {a b : Int} (h : ArcV a b) : Ans Tryz.prog (Zc Φ k T) 49 [ptr k, wid a b] (wid (encL a b) (encH a b)) :=
  fn_by (zc_below hst k T) (s_Hm hst k T) (vc_hasin k a b _) ⟨h, ⟨rfl, rfl⟩, rfl⟩
theorem m_hacos {k : Nat} {T : TypeId} {a b : Int} (h : ArcV a b) : Ans Tryz.prog (Zc Φ k T) 53 [ptr k, wid a b] (wid (cL a b) (cH a b)) :=
  fn_by (zc_below hst k T) (s_Hm hst k T) (vc_hacos k a b _) ⟨h, ⟨rfl, rfl⟩, rfl⟩
theorem m_hamul {k : Nat} {T : TypeId} {a b c d : Int} (h : FixO a b ∧ FixO c d) : Ans Tryz.prog (Zc Φ k T) 48 [ptr k, wid a b, wid c d] (wid (muL a b c d) (muH a b c d)) :=
  fn_by (zc_below hst k T) (s_Hm hst k T) (vc_hamul k a b c d _) ⟨h, ⟨rfl, rfl⟩, rfl⟩
theorem m_haplus {k : Nat} {T : TypeId} {a b c d : Int} (h : Q37s a b c d) : Ans Tryz.prog (Zc Φ k T) 47 [ptr k, wid a b, wid c d] (wid (a + c) (b + d)) :=
  fn_by (zc_below hst k T) (s_Hm hst k T) (vc_haplus k a b c d _) ⟨h, ⟨rfl, rfl⟩, rfl⟩
theorem m_haminus {k : Nat} {T : TypeId} {a b c d : Int} (h : Q37s a b c d) : Ans Tryz.prog (Zc Φ k T) 46 [ptr k, wid a b, wid c d] (wid (a - d) (b - c)) :=
  fn_by (zc_below hst k T) (s_Hm hst k T) (vc_haminus k a b c d _) ⟨h, ⟨rfl, rfl⟩, rfl⟩
theorem m_hapart {k : Nat} {T : TypeId} {a b n d : Int} (h : TmOk a b n d) : Ans Tryz.prog (Zc Φ k T) 45 [ptr k, wid a b, num n, num d] (wid (tmL a n d) (tmH b n d)) :=
  fn_by (zc_below hst k T) (s_Hm hst k T) (vc_hapart k a b n d _) ⟨h, ⟨rfl, rfl⟩, rfl⟩
theorem m_habearing {k : Nat} {T : TypeId} {a b c d : Int} (h : BgOk a b c d) : Ans Tryz.prog (Zc Φ k T) 55 [ptr k, wid a b, wid c d] (wid (bL a b c d) (bH a b c d)) :=
  fn_by (zc_below hst k T) (s_Hm hst k T) (vc_habearing k a b c d _) ⟨h, ⟨rfl, rfl⟩, rfl⟩
theorem c_haside (a b : Int) : Ans Tryz.prog Φ 44 [wid a b] (.bool (decide (SideV a b))) := by
  refine fn_by hst (Sound.cons (by kernel_rfl) (fun args p v h hp => by unfold sAnValid at h; split at h <;> cases h; exact c_anvalid hst _ _) Sound.nil) (vc_haside a b _) ?_
  unfold SideV
  refine ⟨trivial, bcase_iff.mpr ⟨fun p => bcase_iff.mpr ⟨fun q => ?_, fun q => ?_⟩, fun p => ?_⟩⟩
  · have p := of_decide_eq_true p
    have q := of_decide_eq_true q
    exact congrArg Value.bool (decide_eq_decide.mpr ⟨fun h => ⟨p, q, h⟩, fun h => h.2.2⟩)
  · have q := of_decide_eq_false q
    exact congrArg Value.bool (decide_eq_false (fun h => q h.2.1)).symm
  · have p := of_decide_eq_false p
    exact congrArg Value.bool (decide_eq_false (fun h => p h.1)).symm
theorem c_root {n : Int} (h : RtOk n) : Ans Tryz.prog Φ 95 [num n] (num (rtI n)) := by
  refine fn_by hst Sound.nil (vc_fxroot n _) ?_
  obtain ⟨n0, n1⟩ := h
  refine ⟨(32, 2147483648, 0), ⟨rfl, rfl, rfl, rfl, trivial⟩, ⟨Nat.le_refl _, by decide, Int.le_refl _, by simpa using n0, fun _ => rfl, rfl⟩, ?_⟩
  rintro ⟨f, b, k⟩ ⟨f32, eb, k0, kk, z, eq⟩
  dsimp only at *
  have k1 : k < 1518500250 := by
    apply Classical.byContradiction
    intro c
    have : (1518500250 : Int) * 1518500250 ≤ k * k := Int.mul_le_mul (by omega) (by omega) (by decide) k0
    omega
  cases f with
  | zero =>
    have b0 : b = 0 := by rw [eb]; rfl
    rw [b0]
    refine bcase_iff.mpr ⟨fun q => absurd (of_decide_eq_true q) (by decide), fun _ => ?_⟩
    have e : rtF n 0 b k = k := rfl
    exact congrArg (Value.int .i64) (by omega)
  | succ f =>
    have p : (0 : Int) < 2 ^ f := Int.pow_pos (by decide)
    have eb : b = 2 ^ f := by rw [eb, Int.pow_succ]; omega
    have pm : (2 : Int) ^ f ≤ 2 ^ 31 := p2_mono (by omega)
    have b31 : b ≤ 2147483648 := by rw [eb]; exact pm
    have sq : 0 ≤ (k + b) * (k + b) ∧ (k + b) * (k + b) ≤ 9223372036854775807 := by
      refine ⟨Int.mul_nonneg (by omega) (by omega), ?_⟩
      by_cases e : f = 31
      · -- nothing was found yet
        have bb : b = 2147483648 := by rw [eb, e]; rfl
        have kz : k = 0 := z (by omega)
        rw [kz, bb]
        decide
      · have : (2 : Int) ^ f ≤ 2 ^ 30 := p2_mono (by omega)
        have b30 : b ≤ 1073741824 := by rw [eb]; exact this
        have : (k + b) * (k + b) ≤ (2592242074 : Int) * 2592242074 := Int.mul_le_mul (by omega) (by omega) (by omega) (by decide)
        omega
    have w1 : IntKind.i64.wrap (k + b) = k + b := wrap_in (by omega)
    have w2 : IntKind.i64.wrap ((k + b) * (k + b)) = (k + b) * (k + b) := wrap_in (by omega)
    have hb : b.fdiv (2 ^ 1) = b / 2 := fd2 b
    have hb2 : b / 2 = 2 ^ f / 2 := by rw [eb]
    have un : rtF n (f + 1) b k = rtF n f (b / 2) (if (k + b) * (k + b) ≤ n then k + b else k) := rfl
    rw [w1, w2, hb, decide_eq_true (show b > 0 by omega)]
    refine bcase_iff.mpr ⟨fun _ => bcase_iff.mpr ⟨fun q => ?_, fun q => ?_⟩, fun q => absurd q (by decide)⟩
    · have q := of_decide_eq_true q
      rw [if_pos q] at un
      exact ⟨(f, b / 2, k + b), ⟨rfl, rfl, rfl, rfl, trivial⟩, ⟨by omega, hb2, show 0 ≤ k + b by omega, q, fun h => by omega, by rw [← un]; exact eq⟩, Nat.lt_succ_self f⟩
    · have q := of_decide_eq_false q
      rw [if_neg q] at un
      exact ⟨(f, b / 2, k), ⟨rfl, rfl, rfl, rfl, trivial⟩, ⟨by omega, hb2, k0, kk, fun h => by omega, by rw [← un]; exact eq⟩, Nat.lt_succ_self f⟩
end
end Go.Proofs.YtjdcicjhpegphaaGreat
