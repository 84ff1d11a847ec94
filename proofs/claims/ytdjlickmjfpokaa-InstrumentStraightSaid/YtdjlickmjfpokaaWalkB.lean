/- Contract of instrument.Valid: it says just which instruments are valid, for any numbers in the entries. -/
import Derived.Test.YtdjlickmjfpokaaWalkA
namespace Go.Proofs.Ytdjlickmjfpokaa
open Go.RowKit

theorem box2 {w wr : World} {u v : Value} {t : TypeId} (h : Below (w.heap.size + 1) (w.alloc (.cells #[u, v] t)) wr) :
    wr.cell? ⟨w.heap.size, 0, none⟩ = some u ∧ wr.cell? ⟨w.heap.size, 1, none⟩ = some v := by
  have h0 := h.cell (p := ⟨w.heap.size, 0, none⟩) (by simp)
  have h1 := h.cell (p := ⟨w.heap.size, 1, none⟩) (by simp)
  exact ⟨h0.trans (by go_simp), h1.trans (by go_simp)⟩
theorem vld_no {idx : Int} {l : List (Int × Int)} {k : Nat} (hk : k < l.length) (h : ¬ OkEnt l k) : false = vldB idx l := by
  unfold vldB
  symm
  exact decide_eq_false (fun hv => h (hv.2.2.2 k hk))
set_option maxHeartbeats 2000000 in
theorem inValid_any (idx : Int) (A : Option Addr) (c : Nat) (l : List (Int × Int)) (w : World) (hT : Tab w A l) :
    Calls Try.prog 17 #[.agg #[.int .i64 idx, .slice A l.length c]] w fun e w' => e = .returned (.bool (vldB idx l)) ∧ Below w.heap.size w w' := by
  by_cases hi : idx < -60000 ∨ 60000 < idx
  · have hv : Hid (vldB idx l = false) := decide_eq_false (fun hv => by have h1 := hv.1; have h2 := hv.2.1; omega)
    go_enter Try.func17, Try.ntmps17
    go_wp2_with (go_at_call 33; refine (within_no _ _ _ hi ⟨by omega, by omega⟩).mono ?_; rintro e w1 ⟨rfl, rfl⟩)
    go_ret
    exact ⟨ret_bool hv.out.symm, (Below.refl _ _).alloc (Nat.le_refl _) _⟩
  · by_cases hl : 40 < l.length
    · have hv : Hid (vldB idx l = false) := decide_eq_false (fun hv => by have h1 := hv.2.2.1; omega)
      have hl' : (40 : Int) < l.length := by omega
      go_enter Try.func17, Try.ntmps17
      go_wp2_with (go_at_call 33; refine (within_yes _ _ _ (by omega) (by omega) ⟨by omega, by omega⟩).mono ?_; rintro e w1 ⟨rfl, rfl⟩)
      go_ret
      exact ⟨ret_bool hv.out.symm, (Below.refl _ _).alloc (Nat.le_refl _) _⟩
    · have hi1 : -60000 ≤ idx := by omega
      have hi2 : idx ≤ 60000 := by omega
      have hl : l.length ≤ 40 := by omega
      clear hi
      go_enter Try.func17, Try.ntmps17
      go_wp2_with (go_at_call 33; refine (within_yes _ _ _ (by omega) (by omega) ⟨by omega, by omega⟩).mono ?_; rintro e w1 ⟨rfl, rfl⟩)
      go_loopw [19] (fun i wr => ∃ k : Nat, k ≤ l.length ∧ i = .int .i64 k ∧ Below (w.heap.size + 1) (w.alloc (.cells #[.int .i64 idx, .slice A l.length c] 30)) wr ∧ Hid (∀ j, j < k → OkEnt l j)) (fun i _ => l.length - (intOf i).toNat)
      case atStart => exact ⟨0, Nat.zero_le _, rfl, Below.refl _ _, fun j hj => by omega⟩
      case round =>
        obtain ⟨k, hk, rfl, hb, hok⟩ := hrel
        obtain ⟨hb0, hb1⟩ := box2 hb
        have hsz : w.heap.size < wr.heap.size := by have := hb.size; simp at this; omega
        have hend : Below w.heap.size w wr := ((Below.refl _ _).alloc (Nat.le_refl _) _).trans (hb.mono (by omega))
        by_cases hlt : k < l.length
        · obtain ⟨b, off, rfl, hE⟩ := hT (by omega)
          have hE' := ((hE.below ((Below.refl w.heap.size w).alloc (Nat.le_refl _) _) hE.1).below hb (by have := hE.1; omega))
          obtain ⟨hc0, hc1⟩ := hE'.2 k hlt
          have hno : Hid (¬ OkEnt l k → false = vldB idx l) := fun h => vld_no hlt h
          by_cases h1 : atAt l k < 0
          · have hf : Hid (false = vldB idx l) := hno.out (fun h => by have := h.1; omega)
            clear hE'
            go_wp2
            go_ret
            exact ⟨ret_bool hf.out, hend.alloc (by omega) _⟩
          by_cases h2 : 7800000 < atAt l k
          · have hf : Hid (false = vldB idx l) := hno.out (fun h => by have := h.2.1; omega)
            clear hE'
            go_wp2
            go_ret
            exact ⟨ret_bool hf.out, hend.alloc (by omega) _⟩
          by_cases h3 : valAt l k < -10000 ∨ 10000 < valAt l k
          · have hf : Hid (false = vldB idx l) := hno.out (fun h => by have := h.2.2.1; have := h.2.2.2.1; omega)
            clear hE'
            go_wp2_with (go_at_call 33; refine (within_no _ _ _ h3 ⟨by omega, by omega⟩).mono ?_; rintro e w1 ⟨rfl, rfl⟩)
            go_ret
            exact ⟨ret_bool hf.out, hend.alloc (by omega) _⟩
          have ha1 : 0 ≤ atAt l k := by omega
          have ha2 : atAt l k ≤ 7800000 := by omega
          have hv1 : -10000 ≤ valAt l k := by omega
          have hv2 : valAt l k ≤ 10000 := by omega
          clear h1 h2 h3
          by_cases hk0 : k = 0
          · have hok1 : Hid (∀ j, j < k + 1 → OkEnt l j) := by
              intro j hj
              obtain rfl : j = k := by omega
              exact ⟨ha1, ha2, hv1, hv2, fun h => by omega⟩
            have hk0' : ((k : Int) == 0) = true := by simp; exact hk0
            clear hE hE' hk0
            go_wp2_with (go_at_call 33; refine (within_yes _ _ _ (by omega) (by omega) ⟨by omega, by omega⟩).mono ?_; rintro e w1 ⟨rfl, rfl⟩)
            go_roundw
            case rel => exact ⟨k + 1, by omega, by go_num, (hb.alloc (by omega) _), hok1⟩
            case measure => simp [intOf]; omega
          · obtain ⟨hd0, hd1⟩ := hE'.2 (k - 1) (by omega)
            obtain ⟨hq1, hq2, hu1, hu2, _⟩ := hok.out (k - 1) (by omega)
            have hk0' : ((k : Int) == 0) = false := by simp; omega
            clear hE'
            have E1 : Hid (IntKind.i64.wrap ((k : Int) - 1) = (k : Int) - 1) := IntWalk.i64_in _ (by omega)
            have E2 : Hid (((k : Int) - 1).toNat = k - 1) := by show _ = _; omega
            have E3 : Hid (IntKind.i64.wrap (atAt l k - atAt l (k - 1)) = atAt l k - atAt l (k - 1)) := IntWalk.i64_in _ (by omega)
            have E4 : Hid (IntKind.i64.wrap (valAt l k - valAt l (k - 1)) = valAt l k - valAt l (k - 1)) := IntWalk.i64_in _ (by omega)
            have E5 : Hid (IntKind.i64.wrap (10 * (valAt l k - valAt l (k - 1))) = 10 * (valAt l k - valAt l (k - 1))) := IntWalk.i64_in _ (by omega)
            have hbs : b < wr.heap.size := Nat.lt_of_lt_of_le hE.1 (by have := hb.size; simp at this; omega)
            clear hE
            have G3 : (1 : Int) ≤ k := by omega
            have G4 : (k : Int) - 1 < l.length := by omega
            have G1 : (0 : Int) ≤ (k : Int) - 1 := by omega
            by_cases h4 : atAt l k ≤ atAt l (k - 1)
            · have hf : Hid (false = vldB idx l) := hno.out (fun h => by have := (h.2.2.2.2 (by omega)).1; omega)
              have G2 : decide (atAt l k - atAt l (k - 1) ≤ 0) = true := by simp; omega
              go_wp2_with (go_at_call 33; refine (within_yes _ _ _ (by omega) (by omega) ⟨by omega, by omega⟩).mono ?_; rintro e w1 ⟨rfl, rfl⟩)
              have e1 := E1.out
              have e2 := E2.out
              have e3 := E3.out
              go_quiet (fail)
              clear e3
              go_wp2_with fail
              have e4 := E4.out
              have e5 := E5.out
              go_quiet (fail)
              clear e1 e2 e4 e5
              go_wp2
              go_ret
              exact ⟨ret_bool hf.out, by repeat (first | exact hend | refine below_drewN ?_ _ | refine Below.alloc ?_ (by omega) _)⟩
            have G2 : decide (atAt l k - atAt l (k - 1) ≤ 0) = false := by simp; omega
            have G6 : 0 ≤ atAt l k - atAt l (k - 1) ∧ atAt l k - atAt l (k - 1) ≤ 1000000000 := by omega
            by_cases h5 : 10 * (valAt l k - valAt l (k - 1)) < -(atAt l k - atAt l (k - 1)) ∨ atAt l k - atAt l (k - 1) < 10 * (valAt l k - valAt l (k - 1))
            · have hf : Hid (false = vldB idx l) := hno.out (fun h => by have := (h.2.2.2.2 (by omega)).2; omega)
              go_wp2_with (go_at_call 33; refine (within_yes _ _ _ (by omega) (by omega) ⟨by omega, by omega⟩).mono ?_; rintro e w1 ⟨rfl, rfl⟩)
              have e1 := E1.out
              have e2 := E2.out
              have e3 := E3.out
              go_quiet (fail)
              clear e3
              go_wp2_with fail
              have e4 := E4.out
              have e5 := E5.out
              go_quiet ((go_at_call 33; first | exact quiet_left (within_no _ _ _ h5 G6) | exact quiet_add_left (within_no _ _ _ h5 G6)))
              clear e1 e2 e4 e5
              go_wp2
              go_ret
              exact ⟨ret_bool hf.out, by repeat (first | exact hend | refine below_drewN ?_ _ | refine Below.alloc ?_ (by omega) _)⟩
            · have hok1 : Hid (∀ j, j < k + 1 → OkEnt l j) := by
                intro j hj
                by_cases hjk : j = k
                · subst hjk
                  exact ⟨ha1, ha2, hv1, hv2, fun h => ⟨by omega, by omega, by omega⟩⟩
                · exact hok.out j (by omega)
              have h6 : -(atAt l k - atAt l (k - 1)) ≤ 10 * (valAt l k - valAt l (k - 1)) := by omega
              have h7 : 10 * (valAt l k - valAt l (k - 1)) ≤ atAt l k - atAt l (k - 1) := by omega
              clear h5 h4
              go_wp2_with (go_at_call 33; refine (within_yes _ _ _ (by omega) (by omega) ⟨by omega, by omega⟩).mono ?_; rintro e w1 ⟨rfl, rfl⟩)
              have e1 := E1.out
              have e2 := E2.out
              have e3 := E3.out
              go_quiet (fail)
              clear e3
              go_wp2_with fail
              have e4 := E4.out
              have e5 := E5.out
              go_quiet ((go_at_call 33; first | exact quiet_left (within_yes _ _ _ h6 h7 G6) | exact quiet_add_left (within_yes _ _ _ h6 h7 G6)))
              clear e1 e2 e4 e5
              go_wp2
              go_roundw
              case rel => exact ⟨k + 1, by omega, by go_num, below_drewN (hb.alloc (by omega) _) _, hok1⟩
              case measure => simp [intOf]; omega
        · have hv : Hid (true = vldB idx l) := (decide_eq_true (⟨hi1, hi2, hl, fun j hj => hok.out j (by omega)⟩ : Valid18 idx l)).symm
          go_wp2
          go_ret
          exact ⟨ret_bool hv.out, hend⟩
end Go.Proofs.Ytdjlickmjfpokaa
