/- InstrumentTrue returns true for every input: the exact altitude is in the arc that Apply returns. -/
import Derived.Test.YtdjlickmjfpokaaWalkE
import Derived.Test.YtdjlickmjfpokaaAngA
import Derived.Test.YtdjlickmjfpokaaWalkH
namespace Go.Proofs.Ytdjlickmjfpokaa
open Go.RowKit
set_option linter.unusedVariables false
set_option linter.unusedSimpArgs false

theorem tmod_bd2 {a b : Int} (hb : 0 ≤ b) : -b ≤ a.tmod (b + 1) ∧ a.tmod (b + 1) ≤ b := by
  have := tmod_bd (a := a) (b := b + 1) (by omega)
  omega
set_option maxHeartbeats 1000000 in
theorem lawTrue_long (w : World) (idx : Int) (A : Option Addr) (c : Nat) (l : List (Int × Int)) (hs wi off : Int) (hl : 60 < l.length) :
    Calls Try.prog 7 #[.agg #[.int .i64 idx, .slice A l.length c], .int .i64 hs, .int .u16 wi, .int .i16 off] w fun e w' => e = .returned (.bool true) ∧ Below w.heap.size w w' := by
  have HS := Lib.hid (fun W => short_no idx A l.length c W hl)
  go_enter Try.func7, Try.ntmps7
  go_wp2_with fail
  refine (awake_any _).mono ?_
  rintro e w1 ⟨rfl, hb1⟩
  obtain ⟨p0, p1, hz1⟩ := box2' hb1
  go_wp2_with fail
  refine (HS.out _).mono ?_
  rintro e w2 ⟨rfl, hb2⟩
  go_wp2_with fail
  go_ret
  exact ⟨rfl, box_end (below_trans hb1 hb2)⟩
set_option maxHeartbeats 2000000 in
theorem lawTrue_err (w : World) (idx : Int) (A : Option Addr) (c : Nat) (l : List (Int × Int)) (hs wi off : Int) (hl : l.length ≤ 60) (hT : Tab w A l) (hw : 0 ≤ wi ∧ wi ≤ 65535) (er : Int) (her : (er != 0) = true)
    (h : ∀ W : World, Tab W A l → Calls Try.prog 16 #[.agg #[.int .i64 idx, .slice A l.length c], .int .i64 hs, .int .i64 wi] W fun e w' =>
      e = .returned (.tuple #[.agg #[.int .i64 0, .int .i64 0], .int .i64 er]) ∧ Below W.heap.size W w') :
    Calls Try.prog 7 #[.agg #[.int .i64 idx, .slice A l.length c], .int .i64 hs, .int .u16 wi, .int .i16 off] w fun e w' => e = .returned (.bool true) ∧ Below w.heap.size w w' := by
  have HS := Lib.hid (fun W => short_yes idx A l.length c W hl)
  have HP := Lib.hid h
  have HT := Lib.hid hT
  clear hT h
  obtain ⟨hw1, hw2⟩ := hw
  go_enter Try.func7, Try.ntmps7
  go_wp2_with fail
  refine (awake_any _).mono ?_
  rintro e w1 ⟨rfl, hb1⟩
  have T1 := Lib.hid ((HT.out.alloc _).below hb1 (Nat.le_refl _))
  obtain ⟨p0, p1, hz1⟩ := box2' hb1
  go_wp2_with fail
  refine (HS.out _).mono ?_
  rintro e w2 ⟨rfl, hb2⟩
  have T2 := Lib.hid (T1.out.below hb2 (Nat.le_refl _))
  have hb := below_trans hb1 hb2
  clear p0 p1 hz1 hb1 hb2 T1
  obtain ⟨p0, p1, hz1⟩ := box2' hb
  go_wp2_with fail
  refine (HP.out _ T2.out).mono ?_
  rintro e w3 ⟨rfl, hb3⟩
  have hend := below_alloc (box_end (below_trans hb hb3)) (.cells #[.int .i64 0, .int .i64 0] 33)
  clear hb hb3 p0 p1 hz1 HS HP HT T2
  go_wp2_with fail
  go_ret
  exact ⟨rfl, hend⟩
set_option maxRecDepth 100000 in
set_option maxHeartbeats 2000000 in
theorem lawTrue_ok (w : World) (idx : Int) (A : Option Addr) (c : Nat) (l : List (Int × Int)) (hs wi off : Int) (hl : l.length ≤ 60) (hT : Tab w A l) (hv : Valid18 idx l) (h1 : -60000 ≤ hs) (h2 : hs ≤ 7800000) (hw : 0 ≤ wi ∧ wi ≤ 60000) (ho : -32768 ≤ off ∧ off ≤ 32767) :
    Calls Try.prog 7 #[.agg #[.int .i64 idx, .slice A l.length c], .int .i64 hs, .int .u16 wi, .int .i16 off] w fun e w' => e = .returned (.bool true) ∧ Below w.heap.size w w' := by
  obtain ⟨hw1, hw2⟩ := hw
  obtain ⟨ho1, ho2⟩ := ho
  have HS := Lib.hid (fun W => short_yes idx A l.length c W hl)
  have HC := Lib.hid (fun W (hW : Tab W A l) => corr_ok idx A c l hs W hW hv h1 h2)
  have HP := Lib.hid (fun W (hW : Tab W A l) => apply_ok idx A c l hs wi W hW hv h1 h2 hw1 hw2)
  have HT := Lib.hid hT
  clear hT
  obtain ⟨hbd1, hbd2, hbd3, hbd4⟩ := c_bd' hv hs
  have hi1 := hv.1
  have hi2 := hv.2.1
  clear hv
  generalize cLo l hs = cl at *
  generalize cHi l hs = ch at *
  obtain ⟨m1, m2⟩ := tmod_bd2 (a := off) hw1
  have HIn := Lib.hid (fun W => inside_yes (hs + off.tmod (wi + 1) + (cl + idx)) (hs + off.tmod (wi + 1) + (ch + idx)) (hs - wi + (cl + idx)) (hs + wi + (ch + idx)) W (by omega) (by omega) (by omega) (by omega) (by omega) (by omega) (by omega) (by omega))
  have HV := Lib.hid (fun W => r5Valid_yes (hs - wi + (cl + idx)) (hs + wi + (ch + idx)) W (by omega) (by omega) (by omega))
  go_enter Try.func7, Try.ntmps7
  go_wp2_with fail
  refine (awake_any _).mono ?_
  rintro e w1 ⟨rfl, hb1⟩
  have T1 := Lib.hid ((HT.out.alloc _).below hb1 (Nat.le_refl _))
  obtain ⟨p0, p1, hz1⟩ := box2' hb1
  go_wp2_with fail
  refine (HS.out _).mono ?_
  rintro e w2 ⟨rfl, hb2⟩
  have T2 := Lib.hid (T1.out.below hb2 (Nat.le_refl _))
  have hb := below_trans hb1 hb2
  clear p0 p1 hz1 hb1 hb2 T1
  obtain ⟨p0, p1, hz1⟩ := box2' hb
  go_wp2_with fail
  refine (HP.out _ T2.out).mono ?_
  rintro e w3 ⟨rfl, hb3⟩
  have T3 := Lib.hid ((T2.out.below hb3 (Nat.le_refl _)).alloc (.cells #[.int .i64 (hs - wi + (cl + idx)), .int .i64 (hs + wi + (ch + idx))] 33))
  replace hb := below_trans hb hb3
  clear p0 p1 hz1 hb3 T2
  obtain ⟨p0, p1, hz1⟩ := box2' hb
  go_wp2_with fail
  refine (HC.out _ T3.out).mono ?_
  rintro e w4 ⟨rfl, hb4⟩
  obtain ⟨q0, q1, hz4⟩ := box2' hb4
  have hend := box_end (below_trans (below_alloc hb _) hb4)
  clear p0 p1 hz1 hb4 T3 HC HP HS HT hb
  go_wp2_with fail
  refine (HIn.out _).mono ?_
  rintro e w5 ⟨rfl, hb5⟩
  have hz5 : w3.heap.size < w5.heap.size := by have := hb5.size; simp at this; omega
  have s0 := (hb5.cell (p := ⟨w3.heap.size, 0, none⟩) (by simp; omega))
  have s1 := (hb5.cell (p := ⟨w3.heap.size, 1, none⟩) (by simp; omega))
  rw [World.cell?_alloc_lt _ _ _ hz4, q0] at s0
  rw [World.cell?_alloc_lt _ _ _ hz4, q1] at s1
  replace hend := below_trans (below_alloc hend _) hb5
  clear q0 q1 hb5 HIn
  go_wp2_with fail
  refine (HV.out _).mono ?_
  rintro e w6 ⟨rfl, hb6⟩
  replace hend := below_trans hend hb6
  clear hb6 HV
  go_wp2_with fail
  go_ret
  exact ⟨rfl, hend⟩
theorem lawTrue_walk (w : World) (idx : Int) (A : Option Addr) (c : Nat) (l : List (Int × Int)) (wi0 : I64 idx) (hT : Tab w A l) (hs : Int) (w1 : I64 hs) (wi : Int) (hw : 0 ≤ wi ∧ wi ≤ 65535) (off : Int) (ho : -32768 ≤ off ∧ off ≤ 32767) :
    Calls Try.prog 7 #[.agg #[.int .i64 idx, .slice A l.length c], .int .i64 hs, .int .u16 wi, .int .i16 off] w fun e w' => e = .returned (.bool true) ∧ Below w.heap.size w w' := by
  by_cases hl : 60 < l.length
  · exact lawTrue_long w idx A c l hs wi off hl
  · have hl : l.length ≤ 60 := by omega
    by_cases hv : Valid18 idx l
    · by_cases hh : hs < -60000 ∨ 7800000 < hs
      · exact lawTrue_err w idx A c l hs wi off hl hT hw 2 rfl (fun W hW => apply_err idx A c l hs wi W hW 2 rfl (fun W' hW' => corr_range idx A c l hs W' hW' hv hh))
      · by_cases hb : 60000 < wi
        · exact lawTrue_err w idx A c l hs wi off hl hT hw 2 rfl (fun W hW => apply_range idx A c l hs wi W hW hv (by omega) (by omega) (.inr hb))
        · exact lawTrue_ok w idx A c l hs wi off hl hT hv (by omega) (by omega) (by omega) ho
    · exact lawTrue_err w idx A c l hs wi off hl hT hw 1 rfl (fun W hW => apply_err idx A c l hs wi W hW 1 rfl (fun W' hW' => corr_arg idx A c l hs W' hW' hv))
end Go.Proofs.Ytdjlickmjfpokaa
