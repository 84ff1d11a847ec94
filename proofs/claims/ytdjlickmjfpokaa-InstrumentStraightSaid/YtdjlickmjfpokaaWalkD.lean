/- Contracts of instrument.Correction, Apply and IndexFrom. -/
import Derived.Test.YtdjlickmjfpokaaWalkC
import Derived.Test.YtdjlickmjfpokaaPlain2
namespace Go.Proofs.Ytdjlickmjfpokaa
open Go.RowKit
set_option linter.unusedVariables false

theorem inArc_any (A : Option Addr) (c : Nat) (l : List (Int × Int)) (hs : Int) (w : World) (idx : Int) (hv : Valid18 idx l) (hs1 : -60000 ≤ hs ∧ hs ≤ 7800000) (hT : Tab w A l) :
    Calls Try.prog 32 #[.slice A l.length c, .int .i64 hs] w fun e w' =>
      e = .returned (.agg #[.int .i64 (cLo l hs), .int .i64 (cHi l hs)]) ∧ Below w.heap.size w w' := by
  rcases Nat.eq_zero_or_pos l.length with h | h
  · have hl : l = [] := List.eq_nil_of_length_eq_zero h
    subst hl
    have hc := nil_c hs
    refine (inArc_nil A c hs w).mono fun e w' ⟨he, hb⟩ => ⟨?_, hb⟩
    rw [he, hc.1, hc.2]
  · obtain ⟨b, off, rfl, hE⟩ := hT h
    refine (inArc_some b off c l hs w idx hv hs1 hE h).mono fun e w' ⟨p, hF, he, hb⟩ => ⟨?_, hb⟩
    rw [he, hF.pos]
    rfl
set_option maxHeartbeats 1000000 in
theorem corr_arg (idx : Int) (A : Option Addr) (c : Nat) (l : List (Int × Int)) (hs : Int) (w : World) (hT : Tab w A l) (hv : ¬ Valid18 idx l) :
    Calls Try.prog 15 #[.agg #[.int .i64 idx, .slice A l.length c], .int .i64 hs] w fun e w' =>
      e = .returned (.tuple #[.agg #[.int .i64 0, .int .i64 0], .int .i64 1]) ∧ Below w.heap.size w w' := by
  have hv : vldB idx l = false := decide_eq_false hv
  have hV := inValid_any idx A c l _ (hT.alloc (.cells #[.int .i64 idx, .slice A l.length c] 30) |>.alloc (.cells #[.int .i64 0, .int .i64 0] 33))
  rw [hv] at hV
  have HV := Lib.hid hV
  clear hV hv
  go_enter Try.func15, Try.ntmps15
  go_wp2_with fail
  refine HV.out.mono ?_
  rintro e w1 ⟨rfl, hb⟩
  clear HV
  obtain ⟨hc, hf⟩ := bcell hb
  have hz : w.heap.size + 1 < w1.heap.size := by have := hb.size; simp at this; omega
  have hend : Below w.heap.size w w1 := (((Below.refl _ _).alloc (Nat.le_refl _) _).alloc (by simp) _).trans (hb.mono (by simp; omega))
  go_wp2_with fail
  refine bodyPost_ret (v := .tuple #[.agg #[.int .i64 0, .int .i64 0], .int .i64 1]) (by simp [results, Try.results15, go_sem, hc]) rfl ⟨rfl, ?_⟩
  repeat (first | exact hend | refine Below.setCell ?_ (by simp) _)
set_option maxHeartbeats 1000000 in
theorem corr_range (idx : Int) (A : Option Addr) (c : Nat) (l : List (Int × Int)) (hs : Int) (w : World) (hT : Tab w A l) (hv : Valid18 idx l) (hh : hs < -60000 ∨ 7800000 < hs) :
    Calls Try.prog 15 #[.agg #[.int .i64 idx, .slice A l.length c], .int .i64 hs] w fun e w' =>
      e = .returned (.tuple #[.agg #[.int .i64 0, .int .i64 0], .int .i64 2]) ∧ Below w.heap.size w w' := by
  have hv : vldB idx l = true := decide_eq_true hv
  have hV := inValid_any idx A c l _ (hT.alloc (.cells #[.int .i64 idx, .slice A l.length c] 30) |>.alloc (.cells #[.int .i64 0, .int .i64 0] 33))
  rw [hv] at hV
  have HV := Lib.hid hV
  clear hV hv
  go_enter Try.func15, Try.ntmps15
  go_wp2_with fail
  refine HV.out.mono ?_
  rintro e w1 ⟨rfl, hb⟩
  clear HV
  obtain ⟨hc, hf⟩ := bcell hb
  have hz : w.heap.size + 1 < w1.heap.size := by have := hb.size; simp at this; omega
  have hend : Below w.heap.size w w1 := (((Below.refl _ _).alloc (Nat.le_refl _) _).alloc (by simp) _).trans (hb.mono (by simp; omega))
  go_wp2_with fail
  refine (reading_no _ _ hh).mono ?_
  rintro e w2 ⟨rfl, rfl⟩
  go_wp2_with fail
  refine bodyPost_ret (v := .tuple #[.agg #[.int .i64 0, .int .i64 0], .int .i64 2]) (by simp [results, Try.results15, go_sem, hc]) rfl ⟨rfl, ?_⟩
  repeat (first | exact hend | refine Below.setCell ?_ (by simp) _)
set_option maxHeartbeats 1000000 in
theorem corr_ok (idx : Int) (A : Option Addr) (c : Nat) (l : List (Int × Int)) (hs : Int) (w : World) (hT : Tab w A l) (hv : Valid18 idx l) (h1 : -60000 ≤ hs) (h2 : hs ≤ 7800000) :
    Calls Try.prog 15 #[.agg #[.int .i64 idx, .slice A l.length c], .int .i64 hs] w fun e w' =>
      e = .returned (.tuple #[.agg #[.int .i64 (cLo l hs + idx), .int .i64 (cHi l hs + idx)], .int .i64 0]) ∧ Below w.heap.size w w' := by
  have hvB : vldB idx l = true := decide_eq_true hv
  have hT2 := (hT.alloc (.cells #[.int .i64 idx, .slice A l.length c] 30) |>.alloc (.cells #[.int .i64 0, .int .i64 0] 33))
  have hV := inValid_any idx A c l _ hT2
  rw [hvB] at hV
  have HV := Lib.hid hV
  clear hV hvB
  have hbd := c_bd' hv hs
  have hi1 := hv.1
  have hi2 := hv.2.1
  go_enter Try.func15, Try.ntmps15
  go_wp2_with fail
  refine HV.out.mono ?_
  rintro e w1 ⟨rfl, hb⟩
  clear HV
  have HT1 := Lib.hid (hT2.below hb (Nat.le_refl _))
  clear hT2
  obtain ⟨hc, hf⟩ := bcell hb
  have hz : w.heap.size + 1 < w1.heap.size := by have := hb.size; simp at this; omega
  have hend : Below w.heap.size w w1 := (((Below.refl _ _).alloc (Nat.le_refl _) _).alloc (by simp) _).trans (hb.mono (by simp; omega))
  go_wp2_with fail
  refine (reading_yes _ _ h1 h2).mono ?_
  rintro e w2 ⟨rfl, rfl⟩
  go_wp2_with fail
  refine (inArc_any _ _ _ _ _ idx hv ⟨h1, h2⟩ HT1.out).mono ?_
  rintro e w2 ⟨rfl, hb2⟩
  obtain ⟨hc2, hf2⟩ := bcell hb2
  have hz2 : w.heap.size + 1 < w2.heap.size := by have := hb2.size; omega
  have hzb : w.heap.size < w1.heap.size := by omega
  have hzb2 : w.heap.size < w2.heap.size := by omega
  have hend2 : Below w.heap.size w w2 := hend.trans (hb2.mono (by omega))
  go_wp2_with fail
  refine bodyPost_ret (v := .tuple #[.agg #[.int .i64 (cLo l hs + idx), .int .i64 (cHi l hs + idx)], .int .i64 0]) (by simp [results, Try.results15, go_sem, hc, hc2, hz, hz2]) rfl ⟨rfl, ?_⟩
  repeat (first | exact hend2 | refine Below.setCell ?_ (by simp) _ | refine below_alloc ?_ _)
set_option maxHeartbeats 1000000 in
theorem apply_err (idx : Int) (A : Option Addr) (c : Nat) (l : List (Int × Int)) (hs by_ : Int) (w : World) (hT : Tab w A l) (er : Int) (her : (er == 0) = false)
    (h : ∀ W : World, Tab W A l → Calls Try.prog 15 #[.agg #[.int .i64 idx, .slice A l.length c], .int .i64 hs] W fun e w' =>
      e = .returned (.tuple #[.agg #[.int .i64 0, .int .i64 0], .int .i64 er]) ∧ Below W.heap.size W w') :
    Calls Try.prog 16 #[.agg #[.int .i64 idx, .slice A l.length c], .int .i64 hs, .int .i64 by_] w fun e w' =>
      e = .returned (.tuple #[.agg #[.int .i64 0, .int .i64 0], .int .i64 er]) ∧ Below w.heap.size w w' := by
  have HV := Lib.hid (h _ (hT.alloc (.cells #[.int .i64 idx, .slice A l.length c] 30) |>.alloc (.cells #[.int .i64 0, .int .i64 0] 33)))
  clear h
  have hne : (er != 0) = true := by simpa [bne] using her
  go_enter Try.func16, Try.ntmps16
  go_wp2_with fail
  refine HV.out.mono ?_
  rintro e w1 ⟨rfl, hb⟩
  clear HV
  obtain ⟨hc, hf⟩ := bcell hb
  have hz : w.heap.size + 1 < w1.heap.size := by have := hb.size; simp at this; omega
  have hzb : w.heap.size < w1.heap.size := by omega
  have hend : Below w.heap.size w w1 := (((Below.refl _ _).alloc (Nat.le_refl _) _).alloc (by simp) _).trans (hb.mono (by simp; omega))
  go_wp2_with fail
  refine bodyPost_ret (v := .tuple #[.agg #[.int .i64 0, .int .i64 0], .int .i64 er]) (by simp [results, Try.results16, go_sem, hc, hz]) rfl ⟨rfl, ?_⟩
  repeat (first | exact hend | refine Below.setCell ?_ (by simp) _ | refine below_alloc ?_ _)
set_option maxHeartbeats 1000000 in
theorem apply_range (idx : Int) (A : Option Addr) (c : Nat) (l : List (Int × Int)) (hs by_ : Int) (w : World) (hT : Tab w A l) (hv : Valid18 idx l) (h1 : -60000 ≤ hs) (h2 : hs ≤ 7800000) (hby : by_ < 0 ∨ 60000 < by_) :
    Calls Try.prog 16 #[.agg #[.int .i64 idx, .slice A l.length c], .int .i64 hs, .int .i64 by_] w fun e w' =>
      e = .returned (.tuple #[.agg #[.int .i64 0, .int .i64 0], .int .i64 2]) ∧ Below w.heap.size w w' := by
  have HV := Lib.hid (corr_ok idx A c l hs _ (hT.alloc (.cells #[.int .i64 idx, .slice A l.length c] 30) |>.alloc (.cells #[.int .i64 0, .int .i64 0] 33)) hv h1 h2)
  by_cases hb1 : by_ < 0
  all_goals
    try (have hb2 : 60000 < by_ := by omega)
    clear hby
    go_enter Try.func16, Try.ntmps16
    go_wp2_with fail
    refine HV.out.mono ?_
    rintro e w1 ⟨rfl, hb⟩
    clear HV
    obtain ⟨hc, hf⟩ := bcell hb
    have hz : w.heap.size + 1 < w1.heap.size := by have := hb.size; simp at this; omega
    have hzb : w.heap.size < w1.heap.size := by omega
    have hend : Below w.heap.size w w1 := (((Below.refl _ _).alloc (Nat.le_refl _) _).alloc (by simp) _).trans (hb.mono (by simp; omega))
    go_wp2_with fail
    refine bodyPost_ret (v := .tuple #[.agg #[.int .i64 0, .int .i64 0], .int .i64 2]) (by simp [results, Try.results16, go_sem, hc, hz]) rfl ⟨rfl, ?_⟩
    repeat (first | exact hend | refine Below.setCell ?_ (by simp) _ | refine below_alloc ?_ _)
set_option maxHeartbeats 1000000 in
theorem apply_ok (idx : Int) (A : Option Addr) (c : Nat) (l : List (Int × Int)) (hs by_ : Int) (w : World) (hT : Tab w A l) (hv : Valid18 idx l) (h1 : -60000 ≤ hs) (h2 : hs ≤ 7800000) (hb1 : 0 ≤ by_) (hb2 : by_ ≤ 60000) :
    Calls Try.prog 16 #[.agg #[.int .i64 idx, .slice A l.length c], .int .i64 hs, .int .i64 by_] w fun e w' =>
      e = .returned (.tuple #[.agg #[.int .i64 (hs - by_ + (cLo l hs + idx)), .int .i64 (hs + by_ + (cHi l hs + idx))], .int .i64 0]) ∧ Below w.heap.size w w' := by
  have HV := Lib.hid (corr_ok idx A c l hs _ (hT.alloc (.cells #[.int .i64 idx, .slice A l.length c] 30) |>.alloc (.cells #[.int .i64 0, .int .i64 0] 33)) hv h1 h2)
  obtain ⟨hbd1, hbd2, hbd3, hbd4⟩ := c_bd' hv hs
  have hi1 := hv.1
  have hi2 := hv.2.1
  go_enter Try.func16, Try.ntmps16
  go_wp2_with fail
  refine HV.out.mono ?_
  rintro e w1 ⟨rfl, hb⟩
  clear HV
  obtain ⟨hc, hf⟩ := bcell hb
  have hz : w.heap.size + 1 < w1.heap.size := by have := hb.size; simp at this; omega
  have hzb : w.heap.size < w1.heap.size := by omega
  have hend : Below w.heap.size w w1 := (((Below.refl _ _).alloc (Nat.le_refl _) _).alloc (by simp) _).trans (hb.mono (by simp; omega))
  go_wp2_with fail
  refine bodyPost_ret (v := .tuple #[.agg #[.int .i64 (hs - by_ + (cLo l hs + idx)), .int .i64 (hs + by_ + (cHi l hs + idx))], .int .i64 0]) (by simp [results, Try.results16, go_sem, hc, hz]) rfl ⟨rfl, ?_⟩
  repeat (first | exact hend | refine Below.setCell ?_ (by simp) _ | refine below_alloc ?_ _)
theorem index_range (on off : Int) (w : World) (h : on < 0 ∨ 60000 < on ∨ off < 0 ∨ 60000 < off) :
    Calls Try.prog 10 #[.int .i64 on, .int .i64 off] w fun e w' => e = .returned (.tuple #[.int .i64 0, .int .i64 0, .int .i64 2]) ∧ w = w' := by
  by_cases h1 : on < 0
  · clear h
    go_enter Try.func10, Try.ntmps10
    go_wp2
    go_ret3
    exact ⟨rfl, rfl⟩
  by_cases h2 : 60000 < on
  · clear h
    go_enter Try.func10, Try.ntmps10
    go_wp2
    go_ret3
    exact ⟨rfl, rfl⟩
  by_cases h3 : off < 0
  · clear h
    go_enter Try.func10, Try.ntmps10
    go_wp2
    go_ret3
    exact ⟨rfl, rfl⟩
  have h4 : 60000 < off := by omega
  clear h
  go_enter Try.func10, Try.ntmps10
  go_wp2
  go_ret3
  exact ⟨rfl, rfl⟩
theorem index_ok (on off : Int) (w : World) (h1 : 0 ≤ on) (h2 : on ≤ 60000) (h3 : 0 ≤ off) (h4 : off ≤ 60000) :
    Calls Try.prog 10 #[.int .i64 on, .int .i64 off] w fun e w' => e = .returned (.tuple #[.int .i64 ((off - on + 1) / 2), .int .i64 ((on + off + 2) / 4), .int .i64 0]) ∧ w = w' := by
  go_enter Try.func10, Try.ntmps10
  go_wp2_with (go_at_call 28; refine (floor_any _ _ _ (by omega) (by omega)).mono ?_; rintro e w1 ⟨rfl, rfl⟩)
  go_ret3
  exact ⟨rfl, rfl⟩
end Go.Proofs.Ytdjlickmjfpokaa
