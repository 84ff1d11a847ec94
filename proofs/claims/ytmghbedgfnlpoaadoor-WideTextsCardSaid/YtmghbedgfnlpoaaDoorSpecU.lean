/- The reference's functions above the digits: what they return. -/
import Derived.Test.YtmghbedgfnlpoaaDoorSpecS
namespace Go.Proofs.YtmghbedgfnlpoaaDoor
open Go Go.Abs Go.RowKit
set_option linter.unusedVariables false
set_option linter.unusedSimpArgs false
def sMinus : RSpec := fun | [.agg [.r 3 (.int .i64) l, .v (.bool s)]] => some (Can l, [.agg [.same 0, .v (.bool (!decide ((l.length : Int) = 0) && !s))]]) | _ => none
def sCompareR : RSpec := fun | [.agg [.r 3 (.int .i64) l, .v (.bool s)], .agg [.r 3 (.int .i64) m, .v (.bool t)]] => some (CanN l s ∧ CanN m t, [.one (.v (.int .i64 (ordI (numV l s) (numV m t))))]) | _ => none
def sDown : RSpec := fun | [.agg [.r 3 (.int .i64) l, .v (.bool s)], .agg [.r 3 (.int .i64) m, .v (.bool t)]] => some (CanN l s ∧ CanN m t ∧ nv m ≠ 0, [numR ((numV l s).fdiv (numV m t))]) | _ => none
def sUp : RSpec := fun | [.agg [.r 3 (.int .i64) l, .v (.bool s)], .agg [.r 3 (.int .i64) m, .v (.bool t)]] => some (CanN l s ∧ CanN m t ∧ nv m ≠ 0, [numR (-((-numV l s).fdiv (numV m t)))]) | _ => none
abbrev oneV (x : Value) : AD := .one (.v x)
def sIsInt : RSpec := fun | [.agg [.r 3 (.int .i64) l, .v (.bool s)]] => some (CanN l s, [oneV (num (gate (I64 (numV l s)) (numV l s))), oneV (.bool (decide (I64 (numV l s))))]) | _ => none
def sSqrt : RSpec := fun | [.one (.r 3 (.int .i64) l)] => some (Can l ∧ nv l < 1329227995784915872903807060280344576, [.one (dR (dig (rootI 61 (nv l) 0).toNat))]) | _ => none
def sOfWide : RSpec := fun | [.one (.v (.agg ⟨[.int .i64 h, .int .i64 l]⟩))] => some (I64 h ∧ I64 l, [numR (val h l)]) | _ => none
def sToWide : RSpec := fun | [.agg [.r 3 (.int .i64) l, .v (.bool s)]] => some (CanN l s, [oneV (wid (gate (F120 (numV l s)) (hiO (numV l s))) (gate (F120 (numV l s)) (loO (numV l s)))), oneV (num (pick (F120 (numV l s)) 0 5))]) | _ => none
def okQR (v b : Int) (up : Bool) : Prop := b ≠ 0 ∧ I64 (quoI v b up)
instance (v b : Int) (up : Bool) : Decidable (okQR v b up) := by unfold okQR; infer_instance
def sQuotR : RSpec := fun | [.one (.v (.agg ⟨[.int .i64 h, .int .i64 l]⟩)), .one (.v (.int .i64 b)), .one (.v (.bool up))] => some (WV h l ∧ I64 b, [oneV (num (gate (okQR (val h l) b up) (quoI (val h l) b up))), oneV (num (pick (b = 0) 16 (pick (I64 (quoI (val h l) b up)) 0 5)))]) | _ => none
def sRootR : RSpec := fun | [.one (.v (.agg ⟨[.int .i64 h, .int .i64 l]⟩))] => some (WV h l, [oneV (num (gate (0 ≤ h) (rootI 61 (val h l) 0))), oneV (num (pick (0 ≤ h) 0 2))]) | _ => none
def sValidR : FSpec := fun | [.agg ⟨[.int .i64 a, .int .i64 b]⟩] => some (I64 a ∧ I64 b, .bool (decide (WV a b))) | _ => none
/-- A value with a sign. -/
def sgI (s : Bool) (v : Int) : Int := if s then -v else v
/-- IsInt's loop: the digits so far make a number. -/
def annIsInt (l : List Int) (s : Bool) : Ann where
  σ := Nat
  st := fun st i => ⟨lset (lset (keepA st 39 [1]) 4 (.v (.int .i64 (sgI s (dvI (l.drop i)))))) 5 (.v (.int .i64 ((i : Int) - 1))), st.hp⟩
  inv := fun _ i => i ≤ l.length
  μ := fun _ i => i
def AIsInt (l : List Int) (s : Bool) : FuncId → List (Nat × LoopBy) := fun _ => [(0, .ann (annIsInt l s))]
/-- Nothing is said any more of a block. -/
def killA (hp : List Blk) (k : Nat) : List Blk := bset hp k deadB
/-- The root's loop: two bounds. -/
def annSqrt (l : List Int) : Ann where
  σ := Nat × Nat
  st := fun s x => ⟨lset (lset (keepA s 35 [0]) 3 (.ps s.hp.length 0 1 (dig x.1).length)) 4 (.ps (s.hp.length + 2) 0 1 (dig x.2).length), killA s.hp (blkA s 4) ++ rowB (dig x.1) ++ rowB (dig x.2)⟩
  inv := fun _ x => x.1 < x.2 ∧ x.1 * x.1 ≤ nv l ∧ nv l < x.2 * x.2 ∧ x.2 ≤ nv l + 268435456 ^ l.length
  μ := fun _ x => x.2 - x.1
def ASqrt (l : List Int) : FuncId → List (Nat × LoopBy) := fun _ => [(0, .ann (annSqrt l))]
def ΓSg : List (FuncId × CSpec) := [(58, .r sSign)]
def ΓDn : List (FuncId × CSpec) := [(20, .r sOver), (57, .r sSum), (58, .r sSign)]
/-- The digits of a number, by any name. -/
def sOfIntC (f : Int → List Int) : RSpec := fun | [.one (.v (.int .i64 n))] => some (I64 n, [.agg [dR (f n), .v (.bool (decide (n < 0)))]]) | _ => none
def ΓIs (f : Int → List Int) : List (FuncId × CSpec) := [(39, .r (sOfIntC f))]
def ΓSq : List (FuncId × CSpec) := [(57, .r sSum), (41, .r sOrder), (20, .r sOver), (42, .r sTimes)]
def ΓOw (f : Int → List Int) : List (FuncId × CSpec) := [(39, .r (sOfIntC f)), (38, .r sMul), (37, .r sPlus)]
def ΓTw (f : Int → List Int) : List (FuncId × CSpec) := ΓOw f
def ΓQr (f : Int → List Int) : List (FuncId × CSpec) := (19, .r sOfWide) :: ΓTw f
def ΓLl : List (FuncId × CSpec) := (6, .v sValidR) :: (19, .r sOfWide) :: (39, .r sOfInt) :: (38, .r sMul) :: (37, .r sPlus) :: ΓL
end Go.Proofs.YtmghbedgfnlpoaaDoor
