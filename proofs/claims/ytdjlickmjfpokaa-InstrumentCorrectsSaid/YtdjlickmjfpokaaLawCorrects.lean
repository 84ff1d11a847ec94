/- InstrumentCorrects returns true for every input: Valid, Correction and Apply are those of the reference, or the specified errors. -/
import Derived.Test.YtdjlickmjfpokaaWalkE
import Derived.Test.YtdjlickmjfpokaaWalkF
import Derived.Test.YtdjlickmjfpokaaWalkG
import Derived.Deep.RegionHeld3
namespace Go.Proofs.Ytdjlickmjfpokaa
open Go.RowKit
set_option linter.unusedVariables false
set_option linter.unusedSimpArgs false

theorem rfCorr_any (idx : Int) (A : Option Addr) (c : Nat) (l : List (Int × Int)) (hs : Int) (w : World) (hv : Valid18 idx l) (hs1 : -60000 ≤ hs ∧ hs ≤ 7800000) (hT : Tab w A l) :
    Calls Try.prog 19 #[.agg #[.int .i64 idx, .slice A l.length c], .int .i64 hs] w fun e w' =>
      e = .returned (.agg #[.int .i64 (cLo l hs + idx), .int .i64 (cHi l hs + idx)]) ∧ Below w.heap.size w w' := by
  rcases Nat.eq_zero_or_pos l.length with h | h
  · have hl : l = [] := List.eq_nil_of_length_eq_zero h
    subst hl
    have hc := nil_c hs
    refine (rfCorr_nil idx A c hs w).mono fun e w' ⟨he, hb⟩ => ⟨?_, hb⟩
    rw [he, hc.1, hc.2, Int.zero_add]
  · obtain ⟨b, off, rfl, hE⟩ := hT h
    exact rfCorr_some idx b off c l hs w hv hs1 hE h
set_option maxHeartbeats 1000000 in
theorem rfApply_any (idx : Int) (A : Option Addr) (c : Nat) (l : List (Int × Int)) (hs by_ : Int) (w : World) (hv : Valid18 idx l) (h1 : -60000 ≤ hs) (h2 : hs ≤ 7800000) (hb1 : 0 ≤ by_) (hb2 : by_ ≤ 60000) (hT : Tab w A l) :
    Calls Try.prog 20 #[.agg #[.int .i64 idx, .slice A l.length c], .int .i64 hs, .int .i64 by_] w fun e w' =>
      e = .returned (.agg #[.int .i64 (hs - by_ + (cLo l hs + idx)), .int .i64 (hs + by_ + (cHi l hs + idx))]) ∧ Below w.heap.size w w' := by
  have HV := Lib.hid (rfCorr_any idx A c l hs _ hv ⟨h1, h2⟩ (hT.alloc (.cells #[.int .i64 idx, .slice A l.length c] 30) |>.alloc (.cells #[.int .i64 0, .int .i64 0] 33)))
  obtain ⟨hbd1, hbd2, hbd3, hbd4⟩ := c_bd' hv hs
  have hi1 := hv.1
  have hi2 := hv.2.1
  go_enter Try.func20, Try.ntmps20
  go_wp2_with fail
  refine HV.out.mono ?_
  rintro e w1 ⟨rfl, hb⟩
  clear HV
  obtain ⟨hc, hf⟩ := bcell hb
  have hz : w.heap.size + 1 < w1.heap.size := by have := hb.size; simp at this; omega
  have hzb : w.heap.size < w1.heap.size := by omega
  have hend : Below w.heap.size w w1 := (((Below.refl _ _).alloc (Nat.le_refl _) _).alloc (by simp) _).trans (hb.mono (by simp; omega))
  go_wp2_with fail
  refine bodyPost_ret (v := .agg #[.int .i64 (hs - by_ + (cLo l hs + idx)), .int .i64 (hs + by_ + (cHi l hs + idx))]) (by simp [results, Try.results20, go_sem, hc, hz, hzb]) rfl ⟨rfl, ?_⟩
  repeat (first | exact hend | refine Below.setCell ?_ (by simp) _ | refine below_alloc ?_ _)
theorem box2' {w wr : World} {u v : Value} {t : TypeId} (h : Below (w.alloc (.cells #[u, v] t)).heap.size (w.alloc (.cells #[u, v] t)) wr) :
    wr.cell? ⟨w.heap.size, 0, none⟩ = some u ∧ wr.cell? ⟨w.heap.size, 1, none⟩ = some v ∧ w.heap.size < wr.heap.size := by
  obtain ⟨h0, h1⟩ := box2 (h.mono (by simp))
  exact ⟨h0, h1, by have := h.size; simp at this; omega⟩
theorem box_end {w wr : World} {o : Obj} (h : Below (w.alloc o).heap.size (w.alloc o) wr) : Below w.heap.size w wr := below_trans (below_alloc (Below.refl _ _) _) h
set_option maxHeartbeats 1000000 in
theorem lawCorrects_long (idx : Int) (A : Option Addr) (c : Nat) (l : List (Int × Int)) (hs by_ : Int) (w : World) (hl : 60 < l.length) :
    Calls Try.prog 5 #[.agg #[.int .i64 idx, .slice A l.length c], .int .i64 hs, .int .i64 by_] w fun e w' => e = .returned (.bool true) ∧ Below w.heap.size w w' := by
  have hd : decide ((l.length : Int) ≤ 60) = false := by simp; omega
  have HS := Lib.hid (fun W => short_any idx A l.length c W)
  have HD := Lib.hid hd
  clear hd
  go_enter Try.func5, Try.ntmps5
  go_wp2_with fail
  refine (awake_any _).mono ?_
  rintro e w1 ⟨rfl, hb1⟩
  obtain ⟨p0, p1, hz1⟩ := box2' hb1
  go_wp2_with fail
  refine (HS.out _).mono ?_
  rw [HD.out]
  rintro e w2 ⟨rfl, hb2⟩
  go_wp2_with fail
  go_ret
  exact ⟨rfl, box_end (below_trans hb1 hb2)⟩
set_option maxRecDepth 100000 in
set_option maxHeartbeats 2000000 in
theorem lawCorrects_err (idx : Int) (A : Option Addr) (c : Nat) (l : List (Int × Int)) (hs by_ : Int) (w : World) (hl : l.length ≤ 60) (hT : Tab w A l) (er : Int)
    (h : (¬ Valid18 idx l ∧ er = 1) ∨ (Valid18 idx l ∧ (hs < -60000 ∨ 7800000 < hs) ∧ er = 2)) :
    Calls Try.prog 5 #[.agg #[.int .i64 idx, .slice A l.length c], .int .i64 hs, .int .i64 by_] w fun e w' => e = .returned (.bool true) ∧ Below w.heap.size w w' := by
  have hd : decide ((l.length : Int) ≤ 60) = true := by simp; omega
  have HS := Lib.hid (fun W => short_any idx A l.length c W)
  have HD := Lib.hid hd
  clear hd
  have HR := Lib.hid (fun W (hW : Tab W A l) => rfValid_any idx A c l W hW)
  have HI := Lib.hid (fun W (hW : Tab W A l) => inValid_any idx A c l W hW)
  have HT := Lib.hid hT
  clear hT
  rcases h with ⟨hv, rfl⟩ | ⟨hv, hh, rfl⟩
  · have HB := Lib.hid (show vldB idx l = false from decide_eq_false hv)
    have HC := Lib.hid (fun W (hW : Tab W A l) => corr_arg idx A c l hs W hW hv)
    have HP := Lib.hid (fun W (hW : Tab W A l) => apply_err idx A c l hs by_ W hW 1 rfl (fun W' hW' => corr_arg idx A c l hs W' hW' hv))
    clear hv
    go_enter Try.func5, Try.ntmps5
    go_wp2_with fail
    refine (awake_any _).mono ?_
    rintro e w1 ⟨rfl, hb1⟩
    have T1 := Lib.hid ((HT.out.alloc _).below hb1 (Nat.le_refl _))
    obtain ⟨p0, p1, hz1⟩ := box2' hb1
    go_wp2_with fail
    refine (HS.out _).mono ?_
    rw [HD.out]
    rintro e w2 ⟨rfl, hb2⟩
    have T2 := Lib.hid (T1.out.below hb2 (Nat.le_refl _))
    have hb := below_trans hb1 hb2
    clear p0 p1 hz1 hb1 hb2 T1
    obtain ⟨p0, p1, hz1⟩ := box2' hb
    go_wp2_with fail
    refine (HR.out _ T2.out).mono ?_
    rw [HB.out]
    rintro e w3 ⟨rfl, hb3⟩
    have T3 := Lib.hid (T2.out.below hb3 (Nat.le_refl _))
    replace hb := below_trans hb hb3
    clear p0 p1 hz1 hb3 T2
    obtain ⟨p0, p1, hz1⟩ := box2' hb
    go_wp2_with fail
    refine (HC.out _ T3.out).mono ?_
    rintro e w4 ⟨rfl, hb4⟩
    have T4 := Lib.hid ((T3.out.below hb4 (Nat.le_refl _)).alloc (.cells #[.int .i64 0, .int .i64 0] 33))
    replace hb := below_trans hb hb4
    clear p0 p1 hz1 hb4 T3
    obtain ⟨p0, p1, hz1⟩ := box2' hb
    go_wp2_with fail
    refine (HP.out _ T4.out).mono ?_
    rintro e w5 ⟨rfl, hb5⟩
    have T5 := Lib.hid ((T4.out.below hb5 (Nat.le_refl _)).alloc (.cells #[.int .i64 0, .int .i64 0] 33))
    obtain ⟨q0, q1, hz4⟩ := box2' hb5
    replace hb := below_trans (below_alloc hb _) hb5
    clear p0 p1 hz1 hb5 T4
    obtain ⟨p0, p1, hz1⟩ := box2' hb
    go_wp2_with fail
    refine (HI.out _ T5.out).mono ?_
    rw [HB.out]
    rintro e w6 ⟨rfl, hb6⟩
    obtain ⟨r0, r1, hz6⟩ := box2' hb6
    have s0 := (hb6.cell (p := ⟨w4.heap.size, 0, none⟩) (by simp; omega))
    have s1 := (hb6.cell (p := ⟨w4.heap.size, 1, none⟩) (by simp; omega))
    have hzz : w4.heap.size < w6.heap.size := by omega
    rw [World.cell?_alloc_lt _ _ _ hz4, q0] at s0
    rw [World.cell?_alloc_lt _ _ _ hz4, q1] at s1
    have hend := box_end (below_trans (below_alloc hb _) hb6)
    clear p0 p1 hz1 hb6 T5 q0 q1 hb HS HD HR HI HT HB HC HP
    go_wp2_with fail
    go_ret
    exact ⟨rfl, hend⟩
  · have HB := Lib.hid (show vldB idx l = true from decide_eq_true hv)
    have HC := Lib.hid (fun W (hW : Tab W A l) => corr_range idx A c l hs W hW hv hh)
    have HP := Lib.hid (fun W (hW : Tab W A l) => apply_err idx A c l hs by_ W hW 2 rfl (fun W' hW' => corr_range idx A c l hs W' hW' hv hh))
    have HG := Lib.hid (fun W => rfReading_no hs W hh)
    clear hv hh
    go_enter Try.func5, Try.ntmps5
    go_wp2_with fail
    refine (awake_any _).mono ?_
    rintro e w1 ⟨rfl, hb1⟩
    have T1 := Lib.hid ((HT.out.alloc _).below hb1 (Nat.le_refl _))
    obtain ⟨p0, p1, hz1⟩ := box2' hb1
    go_wp2_with fail
    refine (HS.out _).mono ?_
    rw [HD.out]
    rintro e w2 ⟨rfl, hb2⟩
    have T2 := Lib.hid (T1.out.below hb2 (Nat.le_refl _))
    have hb := below_trans hb1 hb2
    clear p0 p1 hz1 hb1 hb2 T1
    obtain ⟨p0, p1, hz1⟩ := box2' hb
    go_wp2_with fail
    refine (HR.out _ T2.out).mono ?_
    rw [HB.out]
    rintro e w3 ⟨rfl, hb3⟩
    have T3 := Lib.hid (T2.out.below hb3 (Nat.le_refl _))
    replace hb := below_trans hb hb3
    clear p0 p1 hz1 hb3 T2
    obtain ⟨p0, p1, hz1⟩ := box2' hb
    go_wp2_with fail
    refine (HC.out _ T3.out).mono ?_
    rintro e w4 ⟨rfl, hb4⟩
    have T4 := Lib.hid ((T3.out.below hb4 (Nat.le_refl _)).alloc (.cells #[.int .i64 0, .int .i64 0] 33))
    replace hb := below_trans hb hb4
    clear p0 p1 hz1 hb4 T3
    obtain ⟨p0, p1, hz1⟩ := box2' hb
    go_wp2_with fail
    refine (HP.out _ T4.out).mono ?_
    rintro e w5 ⟨rfl, hb5⟩
    have T5 := Lib.hid ((T4.out.below hb5 (Nat.le_refl _)).alloc (.cells #[.int .i64 0, .int .i64 0] 33))
    obtain ⟨q0, q1, hz4⟩ := box2' hb5
    replace hb := below_trans (below_alloc hb _) hb5
    clear p0 p1 hz1 hb5 T4
    obtain ⟨p0, p1, hz1⟩ := box2' hb
    go_wp2_with fail
    refine (HI.out _ T5.out).mono ?_
    rw [HB.out]
    rintro e w6 ⟨rfl, hb6⟩
    obtain ⟨r0, r1, hz6⟩ := box2' hb6
    have s0 := (hb6.cell (p := ⟨w4.heap.size, 0, none⟩) (by simp; omega))
    have s1 := (hb6.cell (p := ⟨w4.heap.size, 1, none⟩) (by simp; omega))
    have hzz : w4.heap.size < w6.heap.size := by omega
    rw [World.cell?_alloc_lt _ _ _ hz4, q0] at s0
    rw [World.cell?_alloc_lt _ _ _ hz4, q1] at s1
    have hend := box_end (below_trans (below_alloc hb _) hb6)
    clear p0 p1 hz1 hb6 T5 q0 q1 hb HS HD HR HI HT HB HC HP
    go_wp2_with fail
    refine (HG.out _).mono ?_
    rintro e w7 ⟨rfl, rfl⟩
    go_wp2_with fail
    go_ret
    exact ⟨rfl, hend⟩
set_option maxRecDepth 100000 in
set_option maxHeartbeats 4000000 in
theorem lawCorrects_ok (idx : Int) (A : Option Addr) (c : Nat) (l : List (Int × Int)) (hs by_ : Int) (w : World) (hl : l.length ≤ 60) (hT : Tab w A l) (hv : Valid18 idx l) (h1 : -60000 ≤ hs) (h2 : hs ≤ 7800000) (hby : 0 ≤ by_ ∧ by_ ≤ 60000) :
    Calls Try.prog 5 #[.agg #[.int .i64 idx, .slice A l.length c], .int .i64 hs, .int .i64 by_] w fun e w' => e = .returned (.bool true) ∧ Below w.heap.size w w' := by
  have hd : decide ((l.length : Int) ≤ 60) = true := by simp; omega
  have HS := Lib.hid (fun W => short_any idx A l.length c W)
  have HD := Lib.hid hd
  clear hd
  have HR := Lib.hid (fun W (hW : Tab W A l) => rfValid_any idx A c l W hW)
  have HI := Lib.hid (fun W (hW : Tab W A l) => inValid_any idx A c l W hW)
  have HT := Lib.hid hT
  clear hT
  obtain ⟨hby1, hby2⟩ := hby
  have HB := Lib.hid (show vldB idx l = true from decide_eq_true hv)
  have HC := Lib.hid (fun W (hW : Tab W A l) => corr_ok idx A c l hs W hW hv h1 h2)
  have HP := Lib.hid (fun W (hW : Tab W A l) => apply_ok idx A c l hs by_ W hW hv h1 h2 hby1 hby2)
  have HG := Lib.hid (fun W => rfReading_yes hs W h1 h2)
  have HRC := Lib.hid (fun W (hW : Tab W A l) => rfCorr_any idx A c l hs W hv ⟨h1, h2⟩ hW)
  have HRA := Lib.hid (fun W (hW : Tab W A l) => rfApply_any idx A c l hs by_ W hv h1 h2 hby1 hby2 hW)
  clear hv
  generalize cLo l hs = cl at *
  generalize cHi l hs = ch at *
  go_enter Try.func5, Try.ntmps5
  go_wp2_with fail
  refine (awake_any _).mono ?_
  rintro e w1 ⟨rfl, hb1⟩
  have T1 := Lib.hid ((HT.out.alloc _).below hb1 (Nat.le_refl _))
  obtain ⟨p0, p1, hz1⟩ := box2' hb1
  go_wp2_with fail
  refine (HS.out _).mono ?_
  rw [HD.out]
  rintro e w2 ⟨rfl, hb2⟩
  have T2 := Lib.hid (T1.out.below hb2 (Nat.le_refl _))
  have hb := below_trans hb1 hb2
  clear p0 p1 hz1 hb1 hb2 T1
  obtain ⟨p0, p1, hz1⟩ := box2' hb
  go_wp2_with fail
  refine (HR.out _ T2.out).mono ?_
  rw [HB.out]
  rintro e w3 ⟨rfl, hb3⟩
  have T3 := Lib.hid (T2.out.below hb3 (Nat.le_refl _))
  replace hb := below_trans hb hb3
  clear p0 p1 hz1 hb3 T2
  obtain ⟨p0, p1, hz1⟩ := box2' hb
  go_wp2_with fail
  refine (HC.out _ T3.out).mono ?_
  rintro e w4 ⟨rfl, hb4⟩
  have T4 := Lib.hid ((T3.out.below hb4 (Nat.le_refl _)).alloc (.cells #[.int .i64 (cl + idx), .int .i64 (ch + idx)] 33))
  replace hb := below_trans hb hb4
  clear p0 p1 hz1 hb4 T3
  obtain ⟨p0, p1, hz1⟩ := box2' hb
  go_wp2_with fail
  refine (HP.out _ T4.out).mono ?_
  rintro e w5 ⟨rfl, hb5⟩
  have T5 := Lib.hid ((T4.out.below hb5 (Nat.le_refl _)).alloc (.cells #[.int .i64 (hs - by_ + (cl + idx)), .int .i64 (hs + by_ + (ch + idx))] 33))
  obtain ⟨q0, q1, hz4⟩ := box2' hb5
  replace hb := below_trans (below_alloc hb _) hb5
  clear p0 p1 hz1 hb5 T4
  obtain ⟨p0, p1, hz1⟩ := box2' hb
  go_wp2_with fail
  refine (HI.out _ T5.out).mono ?_
  rw [HB.out]
  rintro e w6 ⟨rfl, hb6⟩
  obtain ⟨r0, r1, hz6⟩ := box2' hb6
  have s0 := (hb6.cell (p := ⟨w4.heap.size, 0, none⟩) (by simp; omega))
  have s1 := (hb6.cell (p := ⟨w4.heap.size, 1, none⟩) (by simp; omega))
  have hzz : w4.heap.size < w6.heap.size := by omega
  rw [World.cell?_alloc_lt _ _ _ hz4, q0] at s0
  rw [World.cell?_alloc_lt _ _ _ hz4, q1] at s1
  have T6 := Lib.hid (T5.out.below hb6 (Nat.le_refl _))
  replace hb := below_trans (below_alloc hb _) hb6
  clear p0 p1 hz1 T5 q0 q1 HS HD HR HI HT HB HC HP hb6
  obtain ⟨p0, p1, hz1⟩ := box2' hb
  go_wp2_with fail
  refine (HG.out _).mono ?_
  rintro e w7 ⟨rfl, rfl⟩
  go_wp2_with fail
  have HR6 := Lib.hid (HRC.out w6.drew T6.out)
  go_region_held3 (fun w' => w'.cell? ⟨w4.heap.size, 0, none⟩ = some (.int .i64 (cl + idx)) ∧ w'.cell? ⟨w4.heap.size, 1, none⟩ = some (.int .i64 (ch + idx)) ∧ w'.cell? ⟨w.heap.size, 0, none⟩ = some (.int .i64 idx) ∧ w'.cell? ⟨w.heap.size, 1, none⟩ = some (.slice A l.length c)) (first | exact ⟨s0, s1, p0, p1⟩ | exact ⟨x0, x1, x2, x3⟩)
    (first | (go_at_call 19; refine HR6.out.mono ?_; rintro e w7 ⟨rfl, hb7⟩; have x0 := (hb7.cell (p := ⟨w4.heap.size, 0, none⟩) hzz).trans s0; have x1 := (hb7.cell (p := ⟨w4.heap.size, 1, none⟩) hzz).trans s1; have x2 := (hb7.cell (p := ⟨w.heap.size, 0, none⟩) hz1).trans p0; have x3 := (hb7.cell (p := ⟨w.heap.size, 1, none⟩) hz1).trans p1))
  have hb7' : Below w6.heap.size w6 w7 := below_trans ((Below.refl _ w6).drew) hb7
  have T7 := Lib.hid (T6.out.below hb7' (Nat.le_refl _))
  have y0 := (hb7.cell (p := ⟨w5.heap.size, 0, none⟩) hz6).trans r0
  have y1 := (hb7.cell (p := ⟨w5.heap.size, 1, none⟩) hz6).trans r1
  have hz7 : w5.heap.size < w7.heap.size := Nat.lt_of_lt_of_le hz6 hb7.size
  have hw7 : w.heap.size < w7.heap.size := Nat.lt_of_lt_of_le hz1 hb7.size
  have hb' : Below _ _ w7 := below_trans hb hb7'
  have HA7 := Lib.hid (HRA.out w7.drew T7.out)
  clear HRA HRC HR6 T6 T7 hb hb7 hb7' s0 s1 r0 r1 p0 p1 hz1 hz6 hzz
  go_wp2_with fail
  go_region_held3 (fun w' => w'.cell? ⟨w5.heap.size, 0, none⟩ = some (.int .i64 (hs - by_ + (cl + idx))) ∧ w'.cell? ⟨w5.heap.size, 1, none⟩ = some (.int .i64 (hs + by_ + (ch + idx))) ∧ w'.cell? ⟨w.heap.size, 0, none⟩ = some (.int .i64 idx) ∧ w'.cell? ⟨w.heap.size, 1, none⟩ = some (.slice A l.length c)) (first | exact ⟨y0, y1, x2, x3⟩ | exact ⟨t0, t1, t2, t3⟩)
    (first | (go_at_call 20; refine HA7.out.mono ?_; rintro e w8 ⟨rfl, hb8⟩; have t0 := (hb8.cell (p := ⟨w5.heap.size, 0, none⟩) hz7).trans y0; have t1 := (hb8.cell (p := ⟨w5.heap.size, 1, none⟩) hz7).trans y1; have t2 := (hb8.cell (p := ⟨w.heap.size, 0, none⟩) hw7).trans x2; have t3 := (hb8.cell (p := ⟨w.heap.size, 1, none⟩) hw7).trans x3))
  have hend := box_end (below_trans hb' (below_trans ((Below.refl _ w7).drew) hb8))
  go_wp2_with fail
  go_ret
  exact ⟨rfl, hend⟩
set_option maxRecDepth 100000 in
set_option maxHeartbeats 4000000 in
theorem lawCorrects_by (idx : Int) (A : Option Addr) (c : Nat) (l : List (Int × Int)) (hs by_ : Int) (w : World) (hl : l.length ≤ 60) (hT : Tab w A l) (hv : Valid18 idx l) (h1 : -60000 ≤ hs) (h2 : hs ≤ 7800000) (hby : by_ < 0 ∨ 60000 < by_) :
    Calls Try.prog 5 #[.agg #[.int .i64 idx, .slice A l.length c], .int .i64 hs, .int .i64 by_] w fun e w' => e = .returned (.bool true) ∧ Below w.heap.size w w' := by
  have hd : decide ((l.length : Int) ≤ 60) = true := by simp; omega
  have HS := Lib.hid (fun W => short_any idx A l.length c W)
  have HD := Lib.hid hd
  clear hd
  have HR := Lib.hid (fun W (hW : Tab W A l) => rfValid_any idx A c l W hW)
  have HI := Lib.hid (fun W (hW : Tab W A l) => inValid_any idx A c l W hW)
  have HT := Lib.hid hT
  clear hT
  have HB := Lib.hid (show vldB idx l = true from decide_eq_true hv)
  have HC := Lib.hid (fun W (hW : Tab W A l) => corr_ok idx A c l hs W hW hv h1 h2)
  have HP := Lib.hid (fun W (hW : Tab W A l) => apply_range idx A c l hs by_ W hW hv h1 h2 hby)
  have HG := Lib.hid (fun W => rfReading_yes hs W h1 h2)
  have HRC := Lib.hid (fun W (hW : Tab W A l) => rfCorr_any idx A c l hs W hv ⟨h1, h2⟩ hW)
  clear hv
  have hby' : by_ < 0 ∨ (0 ≤ by_ ∧ 60000 < by_) := by omega
  clear hby
  generalize cLo l hs = cl at *
  generalize cHi l hs = ch at *
  go_enter Try.func5, Try.ntmps5
  go_wp2_with fail
  refine (awake_any _).mono ?_
  rintro e w1 ⟨rfl, hb1⟩
  have T1 := Lib.hid ((HT.out.alloc _).below hb1 (Nat.le_refl _))
  obtain ⟨p0, p1, hz1⟩ := box2' hb1
  go_wp2_with fail
  refine (HS.out _).mono ?_
  rw [HD.out]
  rintro e w2 ⟨rfl, hb2⟩
  have T2 := Lib.hid (T1.out.below hb2 (Nat.le_refl _))
  have hb := below_trans hb1 hb2
  clear p0 p1 hz1 hb1 hb2 T1
  obtain ⟨p0, p1, hz1⟩ := box2' hb
  go_wp2_with fail
  refine (HR.out _ T2.out).mono ?_
  rw [HB.out]
  rintro e w3 ⟨rfl, hb3⟩
  have T3 := Lib.hid (T2.out.below hb3 (Nat.le_refl _))
  replace hb := below_trans hb hb3
  clear p0 p1 hz1 hb3 T2
  obtain ⟨p0, p1, hz1⟩ := box2' hb
  go_wp2_with fail
  refine (HC.out _ T3.out).mono ?_
  rintro e w4 ⟨rfl, hb4⟩
  have T4 := Lib.hid ((T3.out.below hb4 (Nat.le_refl _)).alloc (.cells #[.int .i64 (cl + idx), .int .i64 (ch + idx)] 33))
  replace hb := below_trans hb hb4
  clear p0 p1 hz1 hb4 T3
  obtain ⟨p0, p1, hz1⟩ := box2' hb
  go_wp2_with fail
  refine (HP.out _ T4.out).mono ?_
  rintro e w5 ⟨rfl, hb5⟩
  have T5 := Lib.hid ((T4.out.below hb5 (Nat.le_refl _)).alloc (.cells #[.int .i64 0, .int .i64 0] 33))
  obtain ⟨q0, q1, hz4⟩ := box2' hb5
  replace hb := below_trans (below_alloc hb _) hb5
  clear p0 p1 hz1 hb5 T4
  obtain ⟨p0, p1, hz1⟩ := box2' hb
  go_wp2_with fail
  refine (HI.out _ T5.out).mono ?_
  rw [HB.out]
  rintro e w6 ⟨rfl, hb6⟩
  obtain ⟨r0, r1, hz6⟩ := box2' hb6
  have s0 := (hb6.cell (p := ⟨w4.heap.size, 0, none⟩) (by simp; omega))
  have s1 := (hb6.cell (p := ⟨w4.heap.size, 1, none⟩) (by simp; omega))
  have hzz : w4.heap.size < w6.heap.size := by omega
  rw [World.cell?_alloc_lt _ _ _ hz4, q0] at s0
  rw [World.cell?_alloc_lt _ _ _ hz4, q1] at s1
  have T6 := Lib.hid (T5.out.below hb6 (Nat.le_refl _))
  replace hb := below_trans (below_alloc hb _) hb6
  clear p0 p1 hz1 T5 q0 q1 HS HD HR HI HT HB HC HP hb6
  obtain ⟨p0, p1, hz1⟩ := box2' hb
  go_wp2_with fail
  refine (HG.out _).mono ?_
  rintro e w7 ⟨rfl, rfl⟩
  go_wp2_with fail
  have HR6 := Lib.hid (HRC.out w6.drew T6.out)
  go_region_held3 (fun w' => w'.cell? ⟨w4.heap.size, 0, none⟩ = some (.int .i64 (cl + idx)) ∧ w'.cell? ⟨w4.heap.size, 1, none⟩ = some (.int .i64 (ch + idx)) ∧ w'.cell? ⟨w.heap.size, 0, none⟩ = some (.int .i64 idx) ∧ w'.cell? ⟨w.heap.size, 1, none⟩ = some (.slice A l.length c)) (first | exact ⟨s0, s1, p0, p1⟩ | exact ⟨x0, x1, x2, x3⟩)
    (first | (go_at_call 19; refine HR6.out.mono ?_; rintro e w7 ⟨rfl, hb7⟩; have x0 := (hb7.cell (p := ⟨w4.heap.size, 0, none⟩) hzz).trans s0; have x1 := (hb7.cell (p := ⟨w4.heap.size, 1, none⟩) hzz).trans s1; have x2 := (hb7.cell (p := ⟨w.heap.size, 0, none⟩) hz1).trans p0; have x3 := (hb7.cell (p := ⟨w.heap.size, 1, none⟩) hz1).trans p1))
  have hb7' : Below w6.heap.size w6 w7 := below_trans ((Below.refl _ w6).drew) hb7
  have T7 := Lib.hid (T6.out.below hb7' (Nat.le_refl _))
  have y0 := (hb7.cell (p := ⟨w5.heap.size, 0, none⟩) hz6).trans r0
  have y1 := (hb7.cell (p := ⟨w5.heap.size, 1, none⟩) hz6).trans r1
  have hz7 : w5.heap.size < w7.heap.size := Nat.lt_of_lt_of_le hz6 hb7.size
  have hw7 : w.heap.size < w7.heap.size := Nat.lt_of_lt_of_le hz1 hb7.size
  have hend := box_end (below_trans hb hb7')
  clear HRC HR6 T6 T7 hb hb7 hb7' s0 s1 r0 r1 p0 p1 hz1 hz6 hzz
  rcases hby' with g1 | ⟨g1, g2⟩
  all_goals
    go_wp2_with fail
    go_ret
    exact ⟨rfl, hend⟩
theorem lawCorrects_walk (w : World) (idx : Int) (A : Option Addr) (c : Nat) (l : List (Int × Int)) (wi : I64 idx) (hT : Tab w A l) (hs : Int) (w1 : I64 hs) (by_ : Int) (w2 : I64 by_) :
    Calls Try.prog 5 #[.agg #[.int .i64 idx, .slice A l.length c], .int .i64 hs, .int .i64 by_] w fun e w' => e = .returned (.bool true) ∧ Below w.heap.size w w' := by
  by_cases hl : 60 < l.length
  · exact lawCorrects_long idx A c l hs by_ w hl
  · have hl : l.length ≤ 60 := by omega
    by_cases hv : Valid18 idx l
    · by_cases hh : hs < -60000 ∨ 7800000 < hs
      · exact lawCorrects_err idx A c l hs by_ w hl hT 2 (.inr ⟨hv, hh, rfl⟩)
      · by_cases hb : by_ < 0 ∨ 60000 < by_
        · exact lawCorrects_by idx A c l hs by_ w hl hT hv (by omega) (by omega) hb
        · exact lawCorrects_ok idx A c l hs by_ w hl hT hv (by omega) (by omega) (by omega)
    · exact lawCorrects_err idx A c l hs by_ w hl hT 1 (.inl ⟨hv, rfl⟩)
end Go.Proofs.Ytdjlickmjfpokaa
