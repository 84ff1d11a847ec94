/- The law of texts of angles. -/
import Derived.Test.YtkcelhhhbbpbpaaDoorTxC
namespace Go.Proofs.YtkcelhhhbbpbpaaDoor
open Go Go.Abs Go.RowKit
set_option linter.unusedVariables false
set_option linter.unusedSimpArgs false
/-- What is asked of a world: the library's variable holds some int; the table of powers is laid. -/
def VT (w : World) : Prop := Vs w ∧ Tabs w
theorem st_vt : ∀ w w', VT w → Below w.heap.size w w' → VT w' := fun w w' h hb => ⟨st_vs w w' h.1 hb, st_tabs w w' h.2 hb⟩
theorem up_vt {f : FuncId} {a : List Value} {v : Value} (h : Ans Tryd.prog Tabs f a v) : Ans Tryd.prog VT f a v := fun w hw => h w hw.2
theorem core_short (m : Nat) (h : m ≤ 1099511627776) : (coreL m).length ≤ 30 := by
  unfold coreL
  rw [← digL_one, ← digL_one, ← digL_pad 2 _ (by omega), ← digL_pad 3 _ (by omega)]
  have h1 := digL_len 8 (m / 60000) 1 (by omega)
  have h2 := digL_len 2 (m % 60000 / 1000) 2 (by omega)
  have h3 := digL_len 1 (m % 1000 / 100) 1 (by omega)
  have h4 := digL_len 3 (m % 1000) 3 (by omega)
  simp only [List.length_append, List.length_cons, List.length_nil]
  split <;> omega
theorem text_sl {n : Int} (h : Fit n) : SL (textB n) := by
  unfold Fit at h
  have := core_short n.natAbs (by omega)
  show (textL n).length ≤ 4000
  unfold textL
  split
  · rw [List.length_cons]; omega
  · omega
theorem text_back {n : Int} (h : Fit n) : parV (textB n) = n ∧ parE (textB n) = 0 := by
  unfold Fit at h
  have b := par_back n (by omega)
  have e : (textB n).data.toList = (if n < 0 then [45] else []) ++ coreL n.natAbs := by
    show textL n = _
    unfold textL
    split <;> rfl
  unfold parV parE
  rw [e, b]
  exact ⟨rfl, rfl⟩
end Go.Proofs.YtkcelhhhbbpbpaaDoor
