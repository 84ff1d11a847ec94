/- The laws of dip over slices, at slices that come in. -/
import Derived.Test.YtfcdcegamcjaiaaDoorLawsG
import Derived.Test.YtfcdcegamcjaiaaDoorRowsIn
namespace Go.Proofs.YtfcdcegamcjaiaaDoor
open Go Go.Abs Go.RowKit
theorem use_tables (W : World) (hL : Tabs W) (xs : List Int) {v : Value} (H : Holds W v 3 (.int .i64) xs) (B : ∀ x ∈ xs, (Lit.int .i64 x).wf = true) : Calls Tryd.prog 4 #[v] W fun e w' => e = .returned (.bool true) ∧ Below W.heap.size W w' :=
  calls_row (law_tables xs (fun x hx => Go.bounds_i64 (B x hx))) hL H
theorem use_lines (W : World) (hL : Tabs W) (xs : List Int) {v : Value} (H : Holds W v 41 (.int .u16) xs) (B : ∀ x ∈ xs, (Lit.int .u16 x).wf = true) : Calls Tryd.prog 6 #[v] W fun e w' => e = .returned (.bool true) ∧ Below W.heap.size W w' :=
  calls_row (law_lines xs (fun x hx => Go.bounds_u16 (B x hx))) hL H
end Go.Proofs.YtfcdcegamcjaiaaDoor
