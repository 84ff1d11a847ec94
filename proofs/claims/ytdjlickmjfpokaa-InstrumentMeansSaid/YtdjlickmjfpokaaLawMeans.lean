/- InstrumentMeans returns true for every input: exchanged readings change the sign of the index correction up to rounding, and both readings are found again. -/
import Derived.Test.YtdjlickmjfpokaaWalkE
namespace Go.Proofs.Ytdjlickmjfpokaa
open Go.RowKit
set_option linter.unusedVariables false

set_option maxHeartbeats 1000000 in
theorem lawMeans_walk (on : Int) (g1 : I64 on) (off : Int) (g2 : I64 off) (w : World) :
    Calls Try.prog 4 #[.int .i64 on, .int .i64 off] w fun e w' => e = .returned (.bool true) ∧ Below w.heap.size w w' := by
  by_cases h : on < 0 ∨ 60000 < on ∨ off < 0 ∨ 60000 < off
  · have HI := Lib.hid (fun W => index_range on off W h)
    have HJ := Lib.hid (fun W => index_range off on W (by omega))
    clear h
    go_enter Try.func4, Try.ntmps4
    go_wp2_with fail
    refine (awake_any _).mono ?_
    rintro e w1 ⟨rfl, hb⟩
    go_wp2_with fail
    refine (HI.out _).mono ?_
    rintro e w2 ⟨rfl, rfl⟩
    go_wp2_with fail
    refine (HJ.out _).mono ?_
    rintro e w2 ⟨rfl, rfl⟩
    clear HI HJ
    go_wp2_with fail
    go_ret
    exact ⟨rfl, hb⟩
  · have h1 : 0 ≤ on := by omega
    have h2 : on ≤ 60000 := by omega
    have h3 : 0 ≤ off := by omega
    have h4 : off ≤ 60000 := by omega
    clear h
    go_enter Try.func4, Try.ntmps4
    go_wp2_with fail
    refine (awake_any _).mono ?_
    rintro e w1 ⟨rfl, hb⟩
    go_wp2_with fail
    refine (index_ok _ _ _ h1 h2 h3 h4).mono ?_
    rintro e w2 ⟨rfl, rfl⟩
    go_wp2_with fail
    refine (index_ok _ _ _ h3 h4 h1 h2).mono ?_
    rintro e w2 ⟨rfl, rfl⟩
    go_wp2_with fail
    all_goals (go_ret; exact ⟨ret_bool (by simp; omega), hb⟩)
end Go.Proofs.Ytdjlickmjfpokaa
