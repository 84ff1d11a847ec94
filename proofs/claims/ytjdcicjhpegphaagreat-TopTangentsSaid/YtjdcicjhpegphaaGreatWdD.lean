/- TopTangents: the law. -/
import Derived.Test.YtjdcicjhpegphaaGreatWfC
import Derived.Test.YtjdcicjhpegphaaGreatLwC
namespace Go.Proofs.YtjdcicjhpegphaaGreat
open Go Go.Abs Go.RowKit Go.Sine
set_option linter.unusedVariables false
set_option linter.unusedSimpArgs false
theorem st_any : ∀ w w' : World, True → Below w.heap.size w w' → True := fun _ _ _ _ => trivial
theorem c_awake54 : Ans Tryz.prog (fun _ => True) 5 [] (.bool true) := by
  obtain ⟨X, Y, hi⟩ := c_gcinverse
  exact c_wayawake st_any (hi st_any)
theorem walk_tangents (g g' d d' s s' t t' o o' p q : Int) (W : World) : Calls Tryz.prog 3 #[geo8 g g' d d' s s' t t', wid o o', wid p q] W fun e w' => e = .returned (.bool true) ∧ Below W.heap.size W w' :=
  law_tangents st_any meets_all c_awake54 g g' d d' s s' t t' o o' p q W trivial
end Go.Proofs.YtjdcicjhpegphaaGreat
