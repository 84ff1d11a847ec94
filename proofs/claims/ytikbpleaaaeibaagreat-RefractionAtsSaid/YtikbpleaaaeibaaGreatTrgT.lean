/- The program's angles in 256 digits and their series: what they answer. -/
import Derived.Test.YtikbpleaaaeibaaGreatTrgD
namespace Go.Proofs.YtikbpleaaaeibaaGreat
open Go Go.Abs Go.RowKit
set_option linter.unusedVariables false
def qSubN : QSpec := fun | [.agg ⟨[.int .u64 a, .int .u64 b, .int .u64 c, .int .u64 d]⟩, .agg ⟨[.int .u64 x, .int .u64 y, .int .u64 z, .int .u64 u]⟩] => some (U4 a b c d ∧ U4 x y z u, fun K => ∀ e f g h, IsN ((nval a b c d - nval x y z u) % W4) e f g h → K (vN e f g h)) | _ => none
def qMulN : QSpec := fun | [.agg ⟨[.int .u64 a, .int .u64 b, .int .u64 c, .int .u64 d]⟩, .agg ⟨[.int .u64 x, .int .u64 y, .int .u64 z, .int .u64 u]⟩] => some (U4 a b c d ∧ U4 x y z u, fun K => ∀ e f g h, IsN (mulI (nval a b c d) (nval x y z u)) e f g h → K (vN e f g h)) | _ => none
def qDivN : QSpec := fun | [.agg ⟨[.int .u64 a, .int .u64 b, .int .u64 c, .int .u64 d]⟩, .int .u64 t, .int .u64 y] => some (U4 a b c d ∧ U64 t ∧ U64 y ∧ t < y, fun K => ∀ e f g h, IsN ((t * W4 + nval a b c d) / y) e f g h → K (vN e f g h)) | _ => none
/-- pi times 2^256, rounded down. -/
def piI : Int := 363771576891766324280234942777729862653393377328392429958772151117938894466185
/-- The angle of some units, in 256 digits. -/
def radI (n : Int) : Int := piI * n / 10800000
def qRad : QSpec := fun | [.int .i64 n] => some (0 ≤ n ∧ n ≤ 2700000, fun K => ∀ e f g h, IsN (radI n) e f g h → K (vN e f g h)) | _ => none
/-- So many rounds of the series. -/
def lessI (Y o : Int) : Nat → Int → Int
  | 0, u => u
  | k + 1, u => lessI Y o k ((Y / ((2 * k + 1 + o) * (2 * k + 2 + o)) - mulI (Y / ((2 * k + 1 + o) * (2 * k + 2 + o))) u) % W4)
def qLess : QSpec := fun | [.agg ⟨[.int .u64 a, .int .u64 b, .int .u64 c, .int .u64 d]⟩, .int .u64 o] => some (U4 a b c d ∧ Bit o, fun K => ∀ e f g h, IsN (lessI (mulI (nval a b c d) (nval a b c d)) o 34 0) e f g h → K (vN e f g h)) | _ => none
structure Ls where
  k : Nat
  a : Int
  b : Int
  c : Int
  d : Int
structure LsR (Y o : Int) (k : Nat) (a b c d : Int) : Prop where
  le : k ≤ 34
  u : U4 a b c d
  eq : lessI Y o k (nval a b c d) = lessI Y o 34 0
def annLess (Y o : Int) : Ann where
  σ := Ls
  st := fun s x => ⟨lset (keepA s 36 [1, 2, 4, 5, 6]) 7 (.v (.int .u64 x.k)), setCs s 3 [.v (.int .u64 x.a), .v (.int .u64 x.b), .v (.int .u64 x.c), .v (.int .u64 x.d)]⟩
  inv := fun s x => LsR Y o x.k x.a x.b x.c x.d
  μ := fun _ x => x.k
def ALess (Y o : Int) : FuncId → List (Nat × LoopBy) := fun _ => [(0, .ann (annLess Y o))]
/-- One times the sine of 0 to 90 degrees, as the program makes it, and whether it is exact. -/
def sinX (X : Int) : Int := (X - mulI X (lessI (mulI X X) 1 34 0)) % W4
def cosX (X : Int) : Int := (0 - lessI (mulI X X) 0 34 0) % W4
def sinP (n : Int) : Int := if n = 0 then 0 else if n = 1800000 then 536870912 else if n = 5400000 then 1073741824 else if 2 * n ≤ 5400000 then sinX (radI n) / 107839786668602559178668060348078522694548577690162289924414440996864 else cosX (radI (5400000 - n)) / 107839786668602559178668060348078522694548577690162289924414440996864
def exB (n : Int) : Bool := n == 0 || (n == 1800000 || n == 5400000)
def ΓTr : List (FuncId × CSpec) := [(104, .e eAdd64), (73, .q qMul64), (105, .q qDivN)]
def ΓTl : List (FuncId × CSpec) := [(90, .q qMulN), (89, .q qSubN), (105, .q qDivN)]
def ΓTn : List (FuncId × CSpec) := [(90, .q qMulN), (89, .q qSubN), (88, .q qRad), (91, .q qLess)]
end Go.Proofs.YtikbpleaaaeibaaGreat
