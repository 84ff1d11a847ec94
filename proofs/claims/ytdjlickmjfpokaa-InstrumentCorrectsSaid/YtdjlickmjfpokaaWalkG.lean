/- Contracts of the reference's Reading, Correction and Apply, and of short. -/
import Derived.Test.YtdjlickmjfpokaaWalkD
import Derived.Test.YtdjlickmjfpokaaRefs
import Derived.Test.YtdjlickmjfpokaaPlain3
import Derived.Deep.RegionHeld3
import Derived.Deep.DeepCutAuto
namespace Go.Proofs.Ytdjlickmjfpokaa
open Go.RowKit
set_option linter.unusedVariables false
set_option linter.unusedSimpArgs false

theorem short_any (idx : Int) (A : Option Addr) (n c : Nat) (w : World) :
    Calls Try.prog 13 #[.agg #[.int .i64 idx, .slice A n c]] w fun e w' => e = .returned (.bool (decide ((n : Int) ≤ 60))) ∧ Below w.heap.size w w' := by
  go_enter Try.func13, Try.ntmps13
  go_wp2
  go_ret
  exact ⟨rfl, (Below.refl _ _).alloc (Nat.le_refl _) _⟩
theorem rfReading_yes (n : Int) (w : World) (h1 : -60000 ≤ n) (h2 : n ≤ 7800000) :
    Calls Try.prog 18 #[.int .i64 n] w fun e w' => e = .returned (.bool true) ∧ w = w' := by
  go_enter Try.func18, Try.ntmps18
  go_wp2
  go_ret
  exact ⟨rfl, rfl⟩
theorem rfReading_no (n : Int) (w : World) (h : n < -60000 ∨ 7800000 < n) :
    Calls Try.prog 18 #[.int .i64 n] w fun e w' => e = .returned (.bool false) ∧ w = w' := by
  by_cases h0 : n < -60000
  · clear h
    go_enter Try.func18, Try.ntmps18
    go_wp2
    go_ret
    exact ⟨rfl, rfl⟩
  · have h' : -60000 ≤ n := by omega
    have h'' : 7800000 < n := by omega
    clear h h0
    go_enter Try.func18, Try.ntmps18
    go_wp2
    go_ret
    exact ⟨ret_bool (by simpa using h''), rfl⟩
theorem ret_agg2 {a b c d : Int} (h1 : a = c) (h2 : b = d) : Ending.returned (.agg #[.int .i64 a, .int .i64 b]) = .returned (.agg #[.int .i64 c, .int .i64 d]) := by rw [h1, h2]
theorem below_tr {a b c : World} (h : Below a.heap.size a b) (k : Below b.heap.size b c) : Below a.heap.size a c := h.trans (k.mono h.size)
theorem rfCorr_nil (idx : Int) (A : Option Addr) (c : Nat) (hs : Int) (w : World) :
    Calls Try.prog 19 #[.agg #[.int .i64 idx, .slice A 0 c], .int .i64 hs] w fun e w' => e = .returned (.agg #[.int .i64 idx, .int .i64 idx]) ∧ Below w.heap.size w w' := by
  go_enter Try.func19, Try.ntmps19
  go_wp2
  refine bodyPost_ret (v := .agg #[.int .i64 idx, .int .i64 idx]) (by simp [results, Try.results19, go_sem]) rfl ⟨rfl, ?_⟩
  repeat (first | exact Below.refl _ _ | refine Below.setCell ?_ (by simp) _ | refine below_alloc ?_ _)
set_option maxRecDepth 100000 in
set_option maxHeartbeats 2000000 in
theorem rfCorr_some (idx : Int) (b off c : Nat) (l : List (Int × Int)) (hs : Int) (w : World) (hv : Valid18 idx l) (hs1 : -60000 ≤ hs ∧ hs ≤ 7800000) (hE : Ents w b off l) (hl : 0 < l.length) :
    Calls Try.prog 19 #[.agg #[.int .i64 idx, .slice (some ⟨b, off, none⟩) l.length c], .int .i64 hs] w fun e w' =>
      e = .returned (.agg #[.int .i64 (cLo l hs + idx), .int .i64 (cHi l hs + idx)]) ∧ Below w.heap.size w w' := by
  have hne : ((l.length : Int) == 0) = false := beq_eq_false_iff_ne.2 (by omega)
  have G1 : (0 : Int) ≤ (l.length : Int) - 1 := by omega
  have G3 : (1 : Int) ≤ l.length := by omega
  have G4 : (l.length : Int) - 1 < l.length := by omega
  have G5 : (0 : Int) < l.length := by omega
  have E1 : Hid (IntKind.i64.wrap ((l.length : Int) - 1) = (l.length : Int) - 1) := IntWalk.i64_in _ (by have := hv.2.2.1; omega)
  have E2 : Hid (((l.length : Int) - 1).toNat = l.length - 1) := by show _ = _; omega
  have hV := Lib.hid hv
  clear hv
  have hbw : b < w.heap.size := hE.1
  have hbw1 : b < w.heap.size + 1 := by omega
  have hbw2 : b < w.heap.size + 1 + 1 := by omega
  have hbw3 : b < w.heap.size + 1 + 1 + 1 := by omega
  go_enter Try.func19, Try.ntmps19
  go_upto_region 4 with fail
  go_cut [6, 7] (fun s6 s7 wx => ∃ g h : Nat, s6 = .pointer (some ⟨g, 0, none⟩) ∧ s7 = .pointer (some ⟨h, 0, none⟩) ∧ wx.cell? ⟨g, 0, none⟩ = some (.int .i64 (atAt l 0)) ∧ wx.cell? ⟨g, 1, none⟩ = some (.int .i64 (valAt l 0)) ∧
    wx.cell? ⟨h, 0, none⟩ = some (.int .i64 (atAt l (l.length - 1))) ∧ wx.cell? ⟨h, 1, none⟩ = some (.int .i64 (valAt l (l.length - 1))) ∧
    Below (w.heap.size + 2) ((w.alloc (.cells #[.int .i64 idx, .slice (some ⟨b, off, none⟩) l.length c] 30)).alloc (.cells #[.int .i64 0, .int .i64 0] 33)) wx)
  case first =>
    obtain ⟨hc0, hc1⟩ := hE.2 0 hl
    obtain ⟨hd0, hd1⟩ := hE.2 (l.length - 1) (by omega)
    simp only [Nat.zero_mul, Nat.add_zero] at hc0 hc1
    have e1 := E1.out
    have e2 := E2.out
    go_region
    all_goals
      go_wp2_with fail
      go_meet
      refine ⟨_, _, rfl, rfl, by simp [go_sem], by simp [go_sem], by simp [go_sem], by simp [go_sem], ?_⟩
      repeat (first | exact Below.refl _ _ | refine Below.drew ?_ | refine Below.alloc ?_ (by simp) _)
  case rest =>
    obtain ⟨g, h, rfl, rfl, g0, g1, h0, h1, hb⟩ := hcut
    obtain ⟨wb, rfl⟩ : ∃ wb : World, wb = wc := ⟨_, rfl⟩
    have hE2 : Ents wb b off l := (hE.below (((Below.refl w.heap.size w).alloc (Nat.le_refl _) _).alloc (by simp) _) hE.1).below hb (by omega)
    have hb1 := hb.cell (p := ⟨w.heap.size, 0, none⟩) (by simp)
    have hb2 := hb.cell (p := ⟨w.heap.size, 1, none⟩) (by simp)
    have hq0 := hb.cell (p := ⟨w.heap.size + 1, 0, none⟩) (by simp)
    have hq1 := hb.cell (p := ⟨w.heap.size + 1, 1, none⟩) (by simp)
    have hz0 := hb.frozen (p := ⟨w.heap.size + 1, 0, none⟩) (by simp)
    have hz1 := hb.frozen (p := ⟨w.heap.size + 1, 1, none⟩) (by simp)
    simp [go_sem] at hb1 hb2 hq0 hq1 hz0 hz1
    have hend : Below w.heap.size w wb := (((Below.refl _ _).alloc (Nat.le_refl _) _).alloc (by simp) _).trans (hb.mono (by omega))
    have hszc : w.heap.size + 1 < wb.heap.size := by have := hb.size; simp at this; omega
    have hszb : w.heap.size < wb.heap.size := by omega
    have hA := asc_of hV.out
    obtain ⟨hs1, hs2⟩ := hs1
    have hbd := c_bd' hV.out hs
    have hi1 := hV.out.1
    have hi2 := hV.out.2.1
    have hl40 := hV.out.2.2.1
    clear E1 E2 hE hb
    by_cases hlo : hs ≤ atAt l 0
    · have HC := Lib.hid (c_lo hA hl hlo)
      obtain ⟨hr1, hr2, hr3, hr4, _⟩ := hV.out.2.2.2 0 hl
      go_wp2_with fail
      refine bodyPost_ret (v := .agg #[.int .i64 (idx + valAt l 0), .int .i64 (idx + valAt l 0)]) (by simp [results, Try.results19, go_sem, hq0, hq1]) rfl ⟨by rw [HC.out.1, HC.out.2, Int.add_comm], ?_⟩
      repeat (first | exact hend | refine Below.setCell ?_ (by simp) _)
    by_cases hhi : atAt l (l.length - 1) ≤ hs
    · have HC := Lib.hid (c_hi hA hl hhi)
      obtain ⟨hr1, hr2, hr3, hr4, _⟩ := hV.out.2.2.2 (l.length - 1) (by omega)
      go_wp2_with fail
      refine bodyPost_ret (v := .agg #[.int .i64 (idx + valAt l (l.length - 1)), .int .i64 (idx + valAt l (l.length - 1))]) (by simp [results, Try.results19, go_sem, hq0, hq1]) rfl ⟨by rw [HC.out.1, HC.out.2, Int.add_comm], ?_⟩
      repeat (first | exact hend | refine Below.setCell ?_ (by simp) _)
    go_wp2_with fail
    go_loop [8] (fun i => ∃ k : Nat, k + 1 < l.length ∧ i = .int .i64 k ∧ Hid (atAt l k < hs)) (fun i => l.length - (intOf i).toNat)
    case atStart => exact ⟨0, by have : ¬ l.length = 1 := fun h => (by rw [h] at hhi; simp at hhi; omega); omega, rfl, (by show _ < _; omega)⟩
    case round =>
      obtain ⟨k, hk, rfl, hlt⟩ := hrel
      obtain ⟨hc0, hc1⟩ := hE2.2 (k + 1) hk
      by_cases hnx : atAt l (k + 1) < hs
      · have hk2 : k + 1 + 1 < l.length := by
          have : ¬ k + 1 = l.length - 1 := fun h => (by rw [h] at hnx; omega)
          omega
        go_wp2_with fail
        go_round
        case rel => exact ⟨k + 1, hk2, by go_num, hnx⟩
        case measure => simp [intOf]; omega
      · obtain ⟨hd0, hd1⟩ := hE2.2 k (by omega)
        have HC := Lib.hid (c_mid hA (p := k + 1) (by omega) hk hlt.out (by omega))
        have W1 : Hid (IntKind.i64.wrap ((k : Int) + 1) = (k : Int) + 1) := IntWalk.i64_in _ (by omega)
        have W2 : Hid (((k : Int) + 1).toNat = k + 1) := by show _ = _; omega
        have hbc : b < wb.heap.size := hE2.1
        have hbc1 : b < wb.heap.size + 1 := by omega
        have K1 : (0 : Int) ≤ (k : Int) + 1 := by omega
        have K2 : (k : Int) + 1 < l.length := by omega
        have K3 : (k : Int) < l.length := by omega
        go_upto_region 12 with fail
        go_cut [9, 10] (fun s9 s10 wx => ∃ g9 h9 : Nat, s9 = .pointer (some ⟨g9, 0, none⟩) ∧ s10 = .pointer (some ⟨h9, 0, none⟩) ∧ wx.cell? ⟨g9, 0, none⟩ = some (.int .i64 (atAt l k)) ∧ wx.cell? ⟨g9, 1, none⟩ = some (.int .i64 (valAt l k)) ∧
          wx.cell? ⟨h9, 0, none⟩ = some (.int .i64 (atAt l (k + 1))) ∧ wx.cell? ⟨h9, 1, none⟩ = some (.int .i64 (valAt l (k + 1))) ∧ Below wb.heap.size wb wx ∧ wb.heap.size ≤ g9)
        case first =>
          have w1 := W1.out
          have w2 := W2.out
          go_region
          all_goals
            go_wp2_with fail
            go_meet
            refine ⟨_, _, rfl, rfl, by simp [go_sem], by simp [go_sem], by simp [go_sem], by simp [go_sem], ?_, by simp⟩
            repeat (first | exact Below.refl _ _ | refine Below.drew ?_ | refine Below.alloc ?_ (by simp) _)
        case rest =>
          obtain ⟨g9, h9, rfl, rfl, k0, k1, k2, k3, hbx, hg9⟩ := hcut
          have hne9 : ¬ g9 = w.heap.size + 1 := by omega
          have hne9' : ¬ w.heap.size + 1 = g9 := by omega
          have q0 := (hbx.cell (p := ⟨w.heap.size, 0, none⟩) hszb).trans hb1
          have q2 := (hbx.cell (p := ⟨w.heap.size + 1, 0, none⟩) hszc).trans hq0
          have q3 := (hbx.cell (p := ⟨w.heap.size + 1, 1, none⟩) hszc).trans hq1
          have z2 := (hbx.frozen (p := ⟨w.heap.size + 1, 0, none⟩) hszc).trans hz0
          have z3 := (hbx.frozen (p := ⟨w.heap.size + 1, 1, none⟩) hszc).trans hz1
          have hendx : Below w.heap.size w wc := below_tr hend hbx
          obtain ⟨ra1, ra2, ra3, ra4, rd⟩ := hV.out.2.2.2 (k + 1) hk
          obtain ⟨rb1, rb2, rb3, rb4, _⟩ := hV.out.2.2.2 k (by omega)
          have rd1 := (rd (by omega)).1
          clear rd
          rw [Nat.add_sub_cancel] at rd1
          simp only [Nat.add_sub_cancel] at HC
          have M := mul_bd (x := valAt l (k + 1) - valAt l k) (y := hs - atAt l k) (X := 20000) (Y := 7900000) (by omega) (by omega)
          generalize hva : valAt l k = va at *
          generalize hvb : valAt l (k + 1) = vb at *
          generalize haa : atAt l k = aa at *
          generalize hab : atAt l (k + 1) = ab at *
          clear hva hvb haa hab hV hc0 hc1 hd0 hd1 hE2 hb1 hb2 hq0 hq1 hz0 hz1 g0 g1 h0 h1 hbd hnx hlt
          have D1 := ediv_bd (a := (vb - va) * (hs - aa)) (b := ab - aa) (lo := -1000000000000) (hi := 1000000000000) (by omega) (by omega) (by omega) (by omega) (by omega)
          have D2 := ediv_bd (a := -((vb - va) * (hs - aa))) (b := ab - aa) (lo := -1000000000000) (hi := 1000000000000) (by omega) (by omega) (by omega) (by omega) (by omega)
          have X1 : Hid (IntKind.i64.wrap (vb - va) = vb - va) := IntWalk.i64_in _ (by omega)
          have X2 : Hid (IntKind.i64.wrap (hs - aa) = hs - aa) := IntWalk.i64_in _ (by omega)
          have X3 : Hid (IntKind.i64.wrap ((vb - va) * (hs - aa)) = (vb - va) * (hs - aa)) := IntWalk.i64_in _ (by omega)
          have X4 : Hid (IntKind.i64.wrap (ab - aa) = ab - aa) := IntWalk.i64_in _ (by omega)
          have Y1 : Hid (IntKind.i64.wrap (idx + va) = idx + va) := IntWalk.i64_in _ (by omega)
          have Y2 : Hid (IntKind.i64.wrap (idx + va + (vb - va) * (hs - aa) / (ab - aa)) = idx + va + (vb - va) * (hs - aa) / (ab - aa)) := IntWalk.i64_in _ (by omega)
          have Y3 : Hid (IntKind.i64.wrap (idx + va + -(-((vb - va) * (hs - aa)) / (ab - aa))) = idx + va + -(-((vb - va) * (hs - aa)) / (ab - aa))) := IntWalk.i64_in _ (by omega)
          have HFl := Lib.hid (fun W => r5Floor_any ((vb - va) * (hs - aa)) (ab - aa) W (by omega) (by omega))
          have HCe := Lib.hid (fun W => r5Ceil_any ((vb - va) * (hs - aa)) (ab - aa) W (by omega) (by omega))
          clear D1 D2 M
          go_wp2_with fail
          have x1 := X1.out
          have x2 := X2.out
          have x3 := X3.out
          have x4 := X4.out
          go_quiet (fail)
          clear x1 x2 x3 x4
          go_wp2_with fail
          have y1 := Y1.out
          have y2 := Y2.out
          have y3 := Y3.out
          go_region_held3 (fun w' => w'.cell? ⟨w.heap.size, 0, none⟩ = some (.int .i64 idx) ∧ w'.cell? ⟨g9, 1, none⟩ = some (.int .i64 va)) (go_keep)
            (first | (go_at_call 29; refine (HFl.out _).mono ?_; rintro e w2 ⟨rfl, rfl⟩) | (go_at_call 34; refine (HCe.out _).mono ?_; rintro e w2 ⟨rfl, rfl⟩))
          all_goals
            clear y1 y2 y3
            go_wp2_with fail
            refine bodyPost_ret (v := .agg #[.int .i64 (idx + va + (vb - va) * (hs - aa) / (ab - aa)), .int .i64 (idx + va + -(-((vb - va) * (hs - aa)) / (ab - aa)))]) (by simp [results, Try.results19, go_sem, q2, q3]) rfl ⟨by rw [HC.out.1, HC.out.2]; apply ret_agg2 <;> omega, ?_⟩
            repeat (first | exact hendx | refine Below.setCell ?_ (by simp) _ | refine Below.drew ?_ | refine below_drewN ?_ _)
end Go.Proofs.Ytdjlickmjfpokaa
