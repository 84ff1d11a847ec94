/- The examples of the chapter hold: awake returns true. -/
import Derived.Test.YtdjlickmjfpokaaWalkD
namespace Go.Proofs.Ytdjlickmjfpokaa
open Go.RowKit
set_option linter.unusedVariables false
set_option linter.unusedSimpArgs false

def exL : List (Int × Int) := [(0, 0), (3600000, 600)]
theorem exL_valid : Valid18 (-1500) exL := by decide
theorem exL_found {hs : Int} (h : 0 < hs) (h' : hs ≤ 3600000) : Found exL hs 1 := by
  refine ⟨by decide, fun k hk => ?_, fun k h1 h2 => ?_⟩
  · obtain rfl : k = 0 := by omega
    exact h
  · have h3 : exL.length = 2 := rfl
    obtain rfl : k = 1 := by omega
    exact h'
theorem exL_c1 : cLo exL 1800000 + -1500 = -1200 ∧ cHi exL 1800000 + -1500 = -1200 := by
  have h : Found exL 1800000 1 := exL_found (by omega) (by omega)
  unfold cLo cHi
  rw [← h.pos]
  decide
theorem exL_c2 : cLo exL 1 + -1500 = -1500 ∧ cHi exL 1 + -1500 = -1499 := by
  have h : Found exL 1 1 := exL_found (by omega) (by omega)
  unfold cLo cHi
  rw [← h.pos]
  decide
theorem exL_tab {w : World} {b : Nat} (hb : b < w.heap.size) (h0 : w.cell? ⟨b, 0, none⟩ = some (.int .i64 0)) (h1 : w.cell? ⟨b, 1, none⟩ = some (.int .i64 0)) (h2 : w.cell? ⟨b, 2, none⟩ = some (.int .i64 3600000)) (h3 : w.cell? ⟨b, 3, none⟩ = some (.int .i64 600)) : Tab w (some ⟨b, 0, none⟩) exL := by
  intro _
  refine ⟨b, 0, rfl, hb, fun k hk => ?_⟩
  have h4 : exL.length = 2 := rfl
  have hk2 : k = 0 ∨ k = 1 := by omega
  rcases hk2 with rfl | rfl
  · exact ⟨h0, h1⟩
  · exact ⟨h2, h3⟩
set_option maxHeartbeats 1000000 in
theorem example_any (w : World) : Calls Try.prog 27 #[] w fun e w' => ∃ A c, Tab w' A exL ∧ e = .returned (.agg #[.int .i64 (-1500), .slice A exL.length c]) ∧ Below w.heap.size w w' := by
  go_enter Try.func27, Try.ntmps27
  go_wp2
  refine bodyPost_ret (v := .agg #[.int .i64 (-1500), .slice (some ⟨w.heap.size + 1, 0, none⟩) 2 2]) (by simp [results, Try.results27, go_sem]) rfl ⟨_, 2, exL_tab (b := w.heap.size + 1) ?_ ?_ ?_ ?_ ?_, rfl, ?_⟩
  all_goals first | (simp [go_sem]; done) | skip
  repeat (first | exact Below.refl _ _ | refine Below.setCell ?_ (by simp) _ | refine below_alloc ?_ _)
theorem below_trans {a b c : World} (h : Below a.heap.size a b) (k : Below b.heap.size b c) : Below a.heap.size a c := h.trans (k.mono h.size)
theorem index_ex (w : World) :
    Calls Try.prog 10 #[.int .i64 31000, .int .i64 33500] w fun e w' => e = .returned (.tuple #[.int .i64 1250, .int .i64 16125, .int .i64 0]) ∧ w = w' :=
  index_ok 31000 33500 w (by omega) (by omega) (by omega) (by omega)
set_option maxHeartbeats 1000000 in
theorem awake_any (w : World) : Calls Try.prog 9 #[] w fun e w' => e = .returned (.bool true) ∧ Below w.heap.size w w' := by
  have C1 : ∀ (W : World) (A : Option Addr) (c : Nat), Tab W A exL → _ := fun W A c hT => corr_ok (-1500) A c exL 1800000 W hT exL_valid (by omega) (by omega)
  have C2 : ∀ (W : World) (A : Option Addr) (c : Nat), Tab W A exL → _ := fun W A c hT => corr_ok (-1500) A c exL 1 W hT exL_valid (by omega) (by omega)
  rw [exL_c1.1, exL_c1.2] at C1
  rw [exL_c2.1, exL_c2.2] at C2
  have H1 := Lib.hid C1
  have H2 := Lib.hid C2
  clear C1 C2
  go_enter Try.func9, Try.ntmps9
  go_wp2_with fail
  refine (example_any _).mono ?_
  rintro e w1 ⟨A1, c1, hT1, rfl, hb1⟩
  go_wp2_with fail
  refine (H1.out _ _ _ hT1).mono ?_
  rintro e w2 ⟨rfl, hb2⟩
  go_wp2_with fail
  refine (example_any _).mono ?_
  rintro e w3 ⟨A3, c3, hT3, rfl, hb3⟩
  go_wp2_with fail
  refine (H2.out _ _ _ hT3).mono ?_
  rintro e w4 ⟨rfl, hb4⟩
  go_wp2_with fail
  refine (index_ex _).mono ?_
  rintro e w5 ⟨rfl, rfl⟩
  obtain ⟨q0, q1⟩ := box2 (hb3.mono (by simp))
  have hz3 : w2.heap.size < w3.heap.size := by have := hb3.size; simp at this; omega
  have hz4 : w2.heap.size < w4.heap.size := by have := hb4.size; omega
  have r0 := (hb4.cell (p := ⟨w2.heap.size, 0, none⟩) hz3).trans q0
  have r1 := (hb4.cell (p := ⟨w2.heap.size, 1, none⟩) hz3).trans q1
  have hend : Below w.heap.size w w4 := below_trans (below_trans (below_alloc (below_trans hb1 hb2) _) hb3) hb4
  clear q0 q1 H1 H2 hT1 hT3 hb3 hb4
  go_wp2
  go_ret
  exact ⟨rfl, below_alloc hend _⟩
end Go.Proofs.Ytdjlickmjfpokaa
