/- Contracts of the reference's quotients, and of the index correction and the semidiameter. -/
import Derived.Test.YtdjlickmjfpokaaWalkA
namespace Go.Proofs.Ytdjlickmjfpokaa
open Go.RowKit
set_option linter.unusedVariables false

theorem r5Floor_any (a b : Int) (w : World) (hb : 1 ≤ b ∧ b ≤ 1000000000) (ha : -1000000000000000000 ≤ a ∧ a ≤ 1000000000000000000) :
    Calls Try.prog 29 #[.int .i64 a, .int .i64 b] w fun e w' => e = .returned (.int .i64 (a / b)) ∧ w = w' := by
  obtain ⟨hb1, hb2⟩ := hb
  obtain ⟨ha1, ha2⟩ := ha
  obtain ⟨hq1, hq2⟩ := tdiv_bd hb1 ha1 ha2 (by omega) (by omega)
  go_enter Try.func29, Try.ntmps29
  go_wp2
  · have h : a.tmod b < 0 := by assumption
    go_ret
    exact ⟨ret_int (tmod_lt_zero_floor (by omega) h), rfl⟩
  · have h : 0 ≤ a.tmod b := by assumption
    go_ret
    exact ⟨ret_int (tmod_nonneg_floor (by omega) h), rfl⟩
theorem r5Ceil_any (a b : Int) (w : World) (hb : 1 ≤ b ∧ b ≤ 1000000000) (ha : -1000000000000000000 ≤ a ∧ a ≤ 1000000000000000000) :
    Calls Try.prog 34 #[.int .i64 a, .int .i64 b] w fun e w' => e = .returned (.int .i64 (-(-a / b))) ∧ w = w' := by
  obtain ⟨hb1, hb2⟩ := hb
  obtain ⟨ha1, ha2⟩ := ha
  obtain ⟨hq1, hq2⟩ := tdiv_bd hb1 ha1 ha2 (by omega) (by omega)
  go_enter Try.func34, Try.ntmps34
  go_wp2
  · have h : 0 < a.tmod b := by assumption
    go_ret
    exact ⟨ret_int (tmod_pos_ceil (by omega) h), rfl⟩
  · have h : a.tmod b ≤ 0 := by assumption
    go_ret
    exact ⟨ret_int (tmod_nonpos_ceil (by omega) h), rfl⟩
theorem rfIndex_any (on off : Int) (w : World) (h1 : 0 ≤ on) (h2 : on ≤ 60000) (h3 : 0 ≤ off) (h4 : off ≤ 60000) :
    Calls Try.prog 11 #[.int .i64 on, .int .i64 off] w fun e w' => e = .returned (.int .i64 ((off - on + 1) / 2)) ∧ w = w' := by
  go_enter Try.func11, Try.ntmps11
  go_wp2_with (go_at_call 29; refine (r5Floor_any _ _ _ (by omega) (by omega)).mono ?_; rintro e w1 ⟨rfl, rfl⟩)
  go_ret
  exact ⟨rfl, rfl⟩
theorem rfSemi_any (on off : Int) (w : World) (h1 : 0 ≤ on) (h2 : on ≤ 60000) (h3 : 0 ≤ off) (h4 : off ≤ 60000) :
    Calls Try.prog 12 #[.int .i64 on, .int .i64 off] w fun e w' => e = .returned (.int .i64 ((on + off + 2) / 4)) ∧ w = w' := by
  go_enter Try.func12, Try.ntmps12
  go_wp2_with (go_at_call 29; refine (r5Floor_any _ _ _ (by omega) (by omega)).mono ?_; rintro e w1 ⟨rfl, rfl⟩)
  go_ret
  exact ⟨rfl, rfl⟩
end Go.Proofs.Ytdjlickmjfpokaa
