/- InstrumentIndex returns true for every input: IndexFrom returns the index correction and the semidiameter, or the error. -/
import Derived.Test.YtdjlickmjfpokaaWalkE
import Derived.Test.YtdjlickmjfpokaaRefs
namespace Go.Proofs.Ytdjlickmjfpokaa
open Go.RowKit
set_option linter.unusedVariables false

set_option maxHeartbeats 1000000 in
theorem lawIndex_walk (on : Int) (g1 : I64 on) (off : Int) (g2 : I64 off) (w : World) :
    Calls Try.prog 3 #[.int .i64 on, .int .i64 off] w fun e w' => e = .returned (.bool true) ∧ Below w.heap.size w w' := by
  by_cases h : on < 0 ∨ 60000 < on ∨ off < 0 ∨ 60000 < off
  · have HI := Lib.hid (fun W => index_range on off W h)
    have h' : on < 0 ∨ (0 ≤ on ∧ 60000 < on) ∨ (0 ≤ on ∧ on ≤ 60000 ∧ off < 0) ∨ (0 ≤ on ∧ on ≤ 60000 ∧ 0 ≤ off ∧ 60000 < off) := by omega
    clear h
    rcases h' with h1 | ⟨h1, h2⟩ | ⟨h1, h2, h3⟩ | ⟨h1, h2, h3, h4⟩
    all_goals
      go_enter Try.func3, Try.ntmps3
      go_wp2_with fail
      refine (awake_any _).mono ?_
      rintro e w1 ⟨rfl, hb⟩
      go_wp2_with fail
      refine (HI.out _).mono ?_
      rintro e w2 ⟨rfl, rfl⟩
      clear HI
      go_wp2_with fail
      go_ret
      exact ⟨rfl, hb⟩
  · have h1 : 0 ≤ on := by omega
    have h2 : on ≤ 60000 := by omega
    have h3 : 0 ≤ off := by omega
    have h4 : off ≤ 60000 := by omega
    clear h
    go_enter Try.func3, Try.ntmps3
    go_wp2_with fail
    refine (awake_any _).mono ?_
    rintro e w1 ⟨rfl, hb⟩
    go_wp2_with fail
    refine (index_ok _ _ _ h1 h2 h3 h4).mono ?_
    rintro e w2 ⟨rfl, rfl⟩
    go_wp2_with (first | (go_at_call 11; refine (rfIndex_any _ _ _ h1 h2 h3 h4).mono ?_; rintro e w3 ⟨rfl, rfl⟩) | (go_at_call 12; refine (rfSemi_any _ _ _ h1 h2 h3 h4).mono ?_; rintro e w3 ⟨rfl, rfl⟩))
    go_ret
    exact ⟨rfl, hb⟩
end Go.Proofs.Ytdjlickmjfpokaa
