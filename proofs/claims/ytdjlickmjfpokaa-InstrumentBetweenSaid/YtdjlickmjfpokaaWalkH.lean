/- What the laws of the instrument share: a boxed instrument behind calls, and short. -/
import Derived.Test.YtdjlickmjfpokaaWalkD
import Derived.Test.YtdjlickmjfpokaaWalkE
namespace Go.Proofs.Ytdjlickmjfpokaa
open Go.RowKit
set_option linter.unusedVariables false
set_option linter.unusedSimpArgs false

theorem short_yes (idx : Int) (A : Option Addr) (n c : Nat) (w : World) (h : n ≤ 60) :
    Calls Try.prog 13 #[.agg #[.int .i64 idx, .slice A n c]] w fun e w' => e = .returned (.bool true) ∧ Below w.heap.size w w' := by
  go_enter Try.func13, Try.ntmps13
  go_wp2
  go_ret
  exact ⟨ret_bool (by simp; omega), (Below.refl _ _).alloc (Nat.le_refl _) _⟩
theorem short_no (idx : Int) (A : Option Addr) (n c : Nat) (w : World) (h : 60 < n) :
    Calls Try.prog 13 #[.agg #[.int .i64 idx, .slice A n c]] w fun e w' => e = .returned (.bool false) ∧ Below w.heap.size w w' := by
  go_enter Try.func13, Try.ntmps13
  go_wp2
  go_ret
  exact ⟨ret_bool (by simp; omega), (Below.refl _ _).alloc (Nat.le_refl _) _⟩
theorem box2' {w wr : World} {u v : Value} {t : TypeId} (h : Below (w.alloc (.cells #[u, v] t)).heap.size (w.alloc (.cells #[u, v] t)) wr) :
    wr.cell? ⟨w.heap.size, 0, none⟩ = some u ∧ wr.cell? ⟨w.heap.size, 1, none⟩ = some v ∧ w.heap.size < wr.heap.size := by
  obtain ⟨h0, h1⟩ := box2 (h.mono (by simp))
  exact ⟨h0, h1, by have := h.size; simp at this; omega⟩
theorem box_end {w wr : World} {o : Obj} (h : Below (w.alloc o).heap.size (w.alloc o) wr) : Below w.heap.size w wr := below_trans (below_alloc (Below.refl _ _) _) h
end Go.Proofs.Ytdjlickmjfpokaa
