/- Contract of the reference's Valid, and of steep. -/
import Derived.Test.YtdjlickmjfpokaaWalkB
import Derived.Test.YtdjlickmjfpokaaRefs
import Derived.Deep.RegionWith
namespace Go.Proofs.Ytdjlickmjfpokaa
open Go.RowKit
set_option linter.unusedVariables false
set_option linter.unusedSimpArgs false

def steepB (x1 y1 x2 y2 : Int) : Bool := decide (x2 - x1 < 10 * (if y1 - y2 ≤ 0 then -(y1 - y2) else y1 - y2))
theorem steep_any (x1 y1 x2 y2 : Int) (w : World) (h1 : 0 ≤ x1 ∧ x1 ≤ 7800000) (h2 : 0 ≤ x2 ∧ x2 ≤ 7800000) (h3 : -10000 ≤ y1 ∧ y1 ≤ 10000) (h4 : -10000 ≤ y2 ∧ y2 ≤ 10000) :
    Calls Try.prog 30 #[.agg #[.int .i64 x1, .int .i64 y1], .agg #[.int .i64 x2, .int .i64 y2]] w fun e w' => e = .returned (.bool (steepB x1 y1 x2 y2)) ∧ Below w.heap.size w w' := by
  obtain ⟨h1, h1'⟩ := h1
  obtain ⟨h2, h2'⟩ := h2
  obtain ⟨h3, h3'⟩ := h3
  obtain ⟨h4, h4'⟩ := h4
  go_enter Try.func30, Try.ntmps30
  go_wp2
  all_goals
    go_ret
    refine ⟨ret_bool ?_, below_alloc (below_alloc (Below.refl _ _) _) _⟩
    unfold steepB
    rw [Bool.eq_iff_iff]
    simp
    split <;> omega
theorem steep_yes {x1 y1 x2 y2 : Int} (h1 : -(x2 - x1) ≤ 10 * (y2 - y1)) (h2 : 10 * (y2 - y1) ≤ x2 - x1) : steepB x1 y1 x2 y2 = false := by
  unfold steepB
  simp
  split <;> omega
theorem steep_no {x1 y1 x2 y2 : Int} (h : 10 * (y2 - y1) < -(x2 - x1) ∨ x2 - x1 < 10 * (y2 - y1)) : steepB x1 y1 x2 y2 = true := by
  unfold steepB
  simp
  split <;> omega
set_option maxHeartbeats 2000000 in
theorem rfValid_any (idx : Int) (A : Option Addr) (c : Nat) (l : List (Int × Int)) (w : World) (hT : Tab w A l) :
    Calls Try.prog 14 #[.agg #[.int .i64 idx, .slice A l.length c]] w fun e w' => e = .returned (.bool (vldB idx l)) ∧ Below w.heap.size w w' := by
  have hi' : idx < -60000 ∨ (-60000 ≤ idx ∧ 60000 < idx) ∨ (-60000 ≤ idx ∧ idx ≤ 60000) := by omega
  rcases hi' with hi | ⟨hi0, hi⟩ | ⟨hi1, hi2⟩
  · have hv : Hid (vldB idx l = false) := decide_eq_false (fun hv => by have h1 := hv.1; have h2 := hv.2.1; omega)
    go_enter Try.func14, Try.ntmps14
    go_wp2
    go_ret
    exact ⟨ret_bool hv.out.symm, (Below.refl _ _).alloc (Nat.le_refl _) _⟩
  · have hv : Hid (vldB idx l = false) := decide_eq_false (fun hv => by have h1 := hv.1; have h2 := hv.2.1; omega)
    go_enter Try.func14, Try.ntmps14
    go_wp2
    go_ret
    exact ⟨ret_bool hv.out.symm, (Below.refl _ _).alloc (Nat.le_refl _) _⟩
  by_cases hl : 40 < l.length
  · have hv : Hid (vldB idx l = false) := decide_eq_false (fun hv => by have h1 := hv.2.2.1; omega)
    have hl' : (40 : Int) < l.length := by omega
    go_enter Try.func14, Try.ntmps14
    go_wp2
    go_ret
    exact ⟨ret_bool hv.out.symm, (Below.refl _ _).alloc (Nat.le_refl _) _⟩
  have hl : l.length ≤ 40 := by omega
  go_enter Try.func14, Try.ntmps14
  go_wp2
  go_loopw [3] (fun i wr => ∃ k : Nat, k ≤ l.length ∧ i = .int .i64 k ∧ Below (w.heap.size + 1) (w.alloc (.cells #[.int .i64 idx, .slice A l.length c] 30)) wr ∧ Hid (∀ j, j < k → OkEnt l j)) (fun i _ => l.length - (intOf i).toNat)
  case atStart => exact ⟨0, Nat.zero_le _, rfl, Below.refl _ _, fun j hj => by omega⟩
  case round =>
    obtain ⟨k, hk, rfl, hb, hok⟩ := hrel
    obtain ⟨hb0, hb1⟩ := box2 hb
    have hsz : w.heap.size < wr.heap.size := by have := hb.size; simp at this; omega
    have hend : Below w.heap.size w wr := ((Below.refl _ _).alloc (Nat.le_refl _) _).trans (hb.mono (by omega))
    by_cases hlt : k < l.length
    · obtain ⟨b, off, rfl, hE⟩ := hT (by omega)
      have hE' := ((hE.below ((Below.refl w.heap.size w).alloc (Nat.le_refl _) _) hE.1).below hb (by have := hE.1; omega))
      obtain ⟨hc0, hc1⟩ := hE'.2 k hlt
      have hno : Hid (¬ OkEnt l k → false = vldB idx l) := fun h => vld_no hlt h
      have hbs : b < wr.heap.size := hE'.1
      by_cases hbad : atAt l k < 0 ∨ 7800000 < atAt l k ∨ valAt l k < -10000 ∨ 10000 < valAt l k
      · have hf : Hid (false = vldB idx l) := hno.out (fun h => by have := h.1; have := h.2.1; have := h.2.2.1; have := h.2.2.2.1; omega)
        have hbad' : atAt l k < 0 ∨ (0 ≤ atAt l k ∧ 7800000 < atAt l k) ∨ (0 ≤ atAt l k ∧ atAt l k ≤ 7800000 ∧ valAt l k < -10000) ∨ (0 ≤ atAt l k ∧ atAt l k ≤ 7800000 ∧ -10000 ≤ valAt l k ∧ 10000 < valAt l k) := by omega
        clear hE' hbad hE
        rcases hbad' with g1 | ⟨g1, g2⟩ | ⟨g1, g2, g3⟩ | ⟨g1, g2, g3, g4⟩
        · have d1 : decide (atAt l k < 0) = true := by simpa using g1
          go_wp2_with fail
          go_quiet (fail)
          go_wp2
          go_ret
          exact ⟨ret_bool hf.out, by repeat (first | exact hend | refine below_drewN ?_ _ | refine below_alloc ?_ _)⟩
        · have d1 : decide (atAt l k < 0) = false := by simpa using g1
          have d2 : decide (7800000 < atAt l k) = true := by simpa using g2
          go_wp2_with fail
          go_quiet (fail)
          go_wp2
          go_ret
          exact ⟨ret_bool hf.out, by repeat (first | exact hend | refine below_drewN ?_ _ | refine below_alloc ?_ _)⟩
        · have d1 : decide (atAt l k < 0) = false := by simpa using g1
          have d2 : decide (7800000 < atAt l k) = false := by simpa using g2
          have d3 : decide (valAt l k < -10000) = true := by simpa using g3
          go_wp2_with fail
          go_quiet (fail)
          go_wp2
          go_ret
          exact ⟨ret_bool hf.out, by repeat (first | exact hend | refine below_drewN ?_ _ | refine below_alloc ?_ _)⟩
        · have d1 : decide (atAt l k < 0) = false := by simpa using g1
          have d2 : decide (7800000 < atAt l k) = false := by simpa using g2
          have d3 : decide (valAt l k < -10000) = false := by simpa using g3
          have d4 : decide (10000 < valAt l k) = true := by simpa using g4
          go_wp2_with fail
          go_quiet (fail)
          go_wp2
          go_ret
          exact ⟨ret_bool hf.out, by repeat (first | exact hend | refine below_drewN ?_ _ | refine below_alloc ?_ _)⟩
      · have ha1 : 0 ≤ atAt l k := by omega
        have ha2 : atAt l k ≤ 7800000 := by omega
        have hv1 : -10000 ≤ valAt l k := by omega
        have hv2 : valAt l k ≤ 10000 := by omega
        clear hbad
        have d1 : decide (atAt l k < 0) = false := by simpa using ha1
        have d2 : decide (7800000 < atAt l k) = false := by simpa using ha2
        have d3 : decide (valAt l k < -10000) = false := by simpa using hv1
        have d4 : decide (10000 < valAt l k) = false := by simpa using hv2
        by_cases hk0 : k = 0
        · have hok1 : Hid (∀ j, j < k + 1 → OkEnt l j) := by
            intro j hj
            obtain rfl : j = k := by omega
            exact ⟨ha1, ha2, hv1, hv2, fun h => by omega⟩
          have d5 : decide ((0 : Int) < k) = false := by simp; omega
          have d6 : decide (0 < k) = false := by simp; omega
          clear hE hE' hk0
          go_wp2_with fail
          go_quiet (fail)
          go_wp2_with fail
          go_quiet (fail)
          go_wp2
          go_roundw
          case rel => exact ⟨k + 1, by omega, by go_num, by repeat (first | exact hb | refine below_drewN ?_ _ | refine Below.alloc ?_ (by omega) _), hok1⟩
          case measure => simp [intOf]; omega
        · obtain ⟨hd0, hd1⟩ := hE'.2 (k - 1) (by omega)
          obtain ⟨hq1, hq2, hu1, hu2, _⟩ := hok.out (k - 1) (by omega)
          have d5 : decide ((0 : Int) < k) = true := by simp; omega
          have d6 : decide (0 < k) = true := by simp; omega
          have E1 : Hid (IntKind.i64.wrap ((k : Int) - 1) = (k : Int) - 1) := IntWalk.i64_in _ (by omega)
          have E2 : Hid (((k : Int) - 1).toNat = k - 1) := by show _ = _; omega
          clear hE' hE
          have G3 : (1 : Int) ≤ k := by omega
          have G4 : (k : Int) - 1 < l.length := by omega
          have G1 : (0 : Int) ≤ (k : Int) - 1 := by omega
          by_cases h4 : atAt l k ≤ atAt l (k - 1)
          · have hf : Hid (false = vldB idx l) := hno.out (fun h => by have := (h.2.2.2.2 (by omega)).1; omega)
            have d7 : decide (atAt l k ≤ atAt l (k - 1)) = true := by simpa using h4
            go_wp2_with fail
            have e1 := E1.out
            have e2 := E2.out
            go_quiet (fail)
            clear e1 e2
            go_wp2
            go_ret
            exact ⟨ret_bool hf.out, by repeat (first | exact hend | refine below_drewN ?_ _ | refine below_alloc ?_ _)⟩
          have d7 : decide (atAt l k ≤ atAt l (k - 1)) = false := by simpa using h4
          by_cases h5 : 10 * (valAt l k - valAt l (k - 1)) < -(atAt l k - atAt l (k - 1)) ∨ atAt l k - atAt l (k - 1) < 10 * (valAt l k - valAt l (k - 1))
          · have hf : Hid (false = vldB idx l) := hno.out (fun h => by have := (h.2.2.2.2 (by omega)).2; omega)
            have HS := Lib.hid (fun W => steep_any (atAt l (k - 1)) (valAt l (k - 1)) (atAt l k) (valAt l k) W ⟨hq1, hq2⟩ ⟨ha1, ha2⟩ ⟨hu1, hu2⟩ ⟨hv1, hv2⟩)
            have HS2 := Lib.hid (steep_no h5)
            go_wp2_with fail
            have e1 := E1.out
            have e2 := E2.out
            go_quiet (fail)
            clear e1 e2
            go_wp2_with fail
            have e1 := E1.out
            have e2 := E2.out
            go_region_with (go_at_call 30; refine (HS.out _).mono ?_; rw [HS2.out]; rintro e w2 ⟨rfl, hb2⟩)
            all_goals
              clear e1 e2
              have hend2 : Below w.heap.size w w2 := by
                refine Below.trans ?_ (hb2.mono ?_)
                · repeat (first | exact hend | refine below_drewN ?_ _ | refine Below.drew ?_ | refine below_alloc ?_ _)
                · simp; omega
              go_wp2
              go_ret
              exact ⟨ret_bool hf.out, hend2⟩
          · have hok1 : Hid (∀ j, j < k + 1 → OkEnt l j) := by
              intro j hj
              by_cases hjk : j = k
              · subst hjk
                exact ⟨ha1, ha2, hv1, hv2, fun h => ⟨by omega, by omega, by omega⟩⟩
              · exact hok.out j (by omega)
            have HS := Lib.hid (fun W => steep_any (atAt l (k - 1)) (valAt l (k - 1)) (atAt l k) (valAt l k) W ⟨hq1, hq2⟩ ⟨ha1, ha2⟩ ⟨hu1, hu2⟩ ⟨hv1, hv2⟩)
            have HS2 := Lib.hid (steep_yes (x1 := atAt l (k - 1)) (y1 := valAt l (k - 1)) (x2 := atAt l k) (y2 := valAt l k) (by omega) (by omega))
            go_wp2_with fail
            have e1 := E1.out
            have e2 := E2.out
            go_quiet (fail)
            clear e1 e2
            go_wp2_with fail
            have e1 := E1.out
            have e2 := E2.out
            go_region_with (go_at_call 30; refine (HS.out _).mono ?_; rw [HS2.out]; rintro e w2 ⟨rfl, hb2⟩)
            all_goals
              clear e1 e2
              have hb3 : Below (w.heap.size + 1) (w.alloc (Obj.cells #[Value.int IntKind.i64 idx, Value.slice (some { block := b, off := off }) l.length c] 30)) w2 := by
                refine Below.trans ?_ (hb2.mono ?_)
                · repeat (first | exact hb | refine below_drewN ?_ _ | refine Below.drew ?_ | refine Below.alloc ?_ (by omega) _)
                · simp; omega
              go_wp2
              go_roundw
              case rel => exact ⟨k + 1, by omega, by go_num, hb3, hok1⟩
              case measure => simp [intOf]; omega
    · have hv : Hid (true = vldB idx l) := (decide_eq_true (⟨hi1, hi2, hl, fun j hj => hok.out j (by omega)⟩ : Valid18 idx l)).symm
      go_wp2
      go_ret
      exact ⟨ret_bool hv.out, hend⟩
end Go.Proofs.Ytdjlickmjfpokaa
