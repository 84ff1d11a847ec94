/- InstrumentBetween returns true for every input: the correction lies between those of the entries, and at an entry it is its value and the index. -/
import Derived.Test.YtdjlickmjfpokaaWalkH
import Derived.Test.YtdjlickmjfpokaaPlain3
import Derived.Deep.RegionHeld3
import Derived.Deep.DeepCutAuto
namespace Go.Proofs.Ytdjlickmjfpokaa
open Go.RowKit
set_option linter.unusedVariables false
set_option linter.unusedSimpArgs false

theorem c_at {idx : Int} {l : List (Int × Int)} (hv : Valid18 idx l) {j : Nat} (hj : j < l.length) : cLo l (atAt l j) = valAt l j ∧ cHi l (atAt l j) = valAt l j := by
  have hA := asc_of hv
  have hF : Found l (atAt l j) j := ⟨by omega, fun k hk => hA k j hk hj, fun k h1 h2 => by
    by_cases hk : k = j
    · subst hk; omega
    · have := hA j k (by omega) h2; omega⟩
  unfold cLo cHi
  rw [← hF.pos]
  exact arc_at (by omega) (.inl (by unfold there; simp; exact hj))
set_option maxRecDepth 100000 in
set_option maxHeartbeats 1000000 in
theorem lawBetween_long (w : World) (idx : Int) (A : Option Addr) (c : Nat) (l : List (Int × Int)) (hs wi k : Int) (hl : 60 < l.length) :
    Calls Try.prog 6 #[.agg #[.int .i64 idx, .slice A l.length c], .int .i64 hs, .int .i64 wi, .int .u8 k] w fun e w' => e = .returned (.bool true) ∧ Below w.heap.size w w' := by
  have HS := Lib.hid (fun W => short_no idx A l.length c W hl)
  go_enter Try.func6, Try.ntmps6
  go_wp2_with fail
  refine (awake_any _).mono ?_
  rintro e w1 ⟨rfl, hb1⟩
  obtain ⟨p0, p1, hz1⟩ := box2' hb1
  go_wp2_with fail
  refine (HS.out _).mono ?_
  rintro e w2 ⟨rfl, hb2⟩
  go_wp2_with fail
  go_ret
  exact ⟨rfl, box_end (below_trans hb1 hb2)⟩
set_option maxRecDepth 100000 in
set_option maxHeartbeats 2000000 in
theorem lawBetween_err (w : World) (idx : Int) (A : Option Addr) (c : Nat) (l : List (Int × Int)) (hs wi k : Int) (hl : l.length ≤ 60) (hT : Tab w A l) (er : Int) (her : (er != 0) = true)
    (h : ∀ W : World, Tab W A l → Calls Try.prog 15 #[.agg #[.int .i64 idx, .slice A l.length c], .int .i64 hs] W fun e w' =>
      e = .returned (.tuple #[.agg #[.int .i64 0, .int .i64 0], .int .i64 er]) ∧ Below W.heap.size W w') :
    Calls Try.prog 6 #[.agg #[.int .i64 idx, .slice A l.length c], .int .i64 hs, .int .i64 wi, .int .u8 k] w fun e w' => e = .returned (.bool true) ∧ Below w.heap.size w w' := by
  have HS := Lib.hid (fun W => short_yes idx A l.length c W hl)
  have HP := Lib.hid h
  have HT := Lib.hid hT
  clear hT h
  go_enter Try.func6, Try.ntmps6
  go_wp2_with fail
  refine (awake_any _).mono ?_
  rintro e w1 ⟨rfl, hb1⟩
  have T1 := Lib.hid ((HT.out.alloc _).below hb1 (Nat.le_refl _))
  obtain ⟨p0, p1, hz1⟩ := box2' hb1
  go_wp2_with fail
  refine (HS.out _).mono ?_
  rintro e w2 ⟨rfl, hb2⟩
  have T2 := Lib.hid (T1.out.below hb2 (Nat.le_refl _))
  have hb := below_trans hb1 hb2
  clear p0 p1 hz1 hb1 hb2 T1
  obtain ⟨p0, p1, hz1⟩ := box2' hb
  go_wp2_with fail
  refine (HP.out _ T2.out).mono ?_
  rintro e w3 ⟨rfl, hb3⟩
  have hend := below_alloc (box_end (below_trans hb hb3)) (.cells #[.int .i64 0, .int .i64 0] 33)
  clear hb hb3 p0 p1 hz1 HS HP HT T2
  go_wp2_with fail
  go_ret
  exact ⟨rfl, hend⟩
set_option maxRecDepth 100000 in
set_option maxHeartbeats 4000000 in
theorem lawBetween_ok (w : World) (idx : Int) (A : Option Addr) (c : Nat) (l : List (Int × Int)) (hs wi : Int) (kn : Nat) (hl : l.length ≤ 60) (hT : Tab w A l) (hv : Valid18 idx l) (h1 : -60000 ≤ hs) (h2 : hs ≤ 7800000) (hk : kn ≤ 255) (a1 a2 er : Int)
    (ha : ((er == 0) = true ∧ 0 ≤ wi ∧ wi ≤ 60000 ∧ a1 = hs - wi + (cLo l hs + idx) ∧ a2 = hs + wi + (cHi l hs + idx)) ∨ (er == 0) = false)
    (h : ∀ W : World, Tab W A l → Calls Try.prog 16 #[.agg #[.int .i64 idx, .slice A l.length c], .int .i64 hs, .int .i64 wi] W fun e w' =>
      e = .returned (.tuple #[.agg #[.int .i64 a1, .int .i64 a2], .int .i64 er]) ∧ Below W.heap.size W w') :
    Calls Try.prog 6 #[.agg #[.int .i64 idx, .slice A l.length c], .int .i64 hs, .int .i64 wi, .int .u8 kn] w fun e w' => e = .returned (.bool true) ∧ Below w.heap.size w w' := by
  have HS := Lib.hid (fun W => short_yes idx A l.length c W hl)
  have HP := Lib.hid h
  have HT := Lib.hid hT
  have HC := Lib.hid (fun W (hW : Tab W A l) => corr_ok idx A c l hs W hW hv h1 h2)
  have HBd := Lib.hid (fun (hl0 : 0 < l.length) m M (hm : ∀ k, k < l.length → m ≤ valAt l k ∧ valAt l k ≤ M) => c_bd (hs := hs) hv hl0 hm)
  have HNil := Lib.hid (fun (e : l = []) => (e ▸ nil_c hs : cLo l hs = 0 ∧ cHi l hs = 0))
  have HVa := Lib.hid (fun k (hk : k < l.length) => (hv.2.2.2 k hk : OkEnt l k))
  have HC2 := Lib.hid (fun j (hj : j < l.length) W (hW : Tab W A l) => corr_ok idx A c l (atAt l j) W hW hv (by have := (hv.2.2.2 j hj).1; omega) (hv.2.2.2 j hj).2.1)
  have HC3 := Lib.hid (fun j (hj : j < l.length) => c_at hv hj)
  obtain ⟨hbd1, hbd2, hbd3, hbd4⟩ := c_bd' hv hs
  have hi1 := hv.1
  have hi2 := hv.2.1
  clear hT h hv
  generalize cLo l hs = cl at *
  generalize cHi l hs = ch at *
  by_cases hl0 : l.length = 0
  · obtain ⟨rfl, rfl⟩ := HNil.out (List.eq_nil_of_length_eq_zero hl0)
    have hl0' : ((l.length : Int) == 0) = true := beq_iff_eq.2 (by omega)
    clear HVa HC2 HC3 HBd HNil hl0
    rcases ha with ⟨he, g1, g2, rfl, rfl⟩ | he
    all_goals
      go_enter Try.func6, Try.ntmps6
      go_wp2_with fail
      refine (awake_any _).mono ?_
      rintro e w1 ⟨rfl, hb1⟩
      have T1 := Lib.hid ((HT.out.alloc _).below hb1 (Nat.le_refl _))
      obtain ⟨p0, p1, hz1⟩ := box2' hb1
      go_wp2_with fail
      refine (HS.out _).mono ?_
      rintro e w2 ⟨rfl, hb2⟩
      have T2 := Lib.hid (T1.out.below hb2 (Nat.le_refl _))
      have hb := below_trans hb1 hb2
      clear p0 p1 hz1 hb1 hb2 T1
      obtain ⟨p0, p1, hz1⟩ := box2' hb
      go_wp2_with fail
      refine (HC.out _ T2.out).mono ?_
      rintro e w3 ⟨rfl, hb3⟩
      have T3 := Lib.hid ((T2.out.below hb3 (Nat.le_refl _)).alloc (.cells #[.int .i64 idx, .int .i64 idx] 33))
      replace hb := below_trans hb hb3
      clear p0 p1 hz1 hb3 T2
      obtain ⟨p0, p1, hz1⟩ := box2' hb
      go_wp2_with fail
      refine (HP.out _ T3.out).mono ?_
      rintro e w4 ⟨rfl, hb4⟩
      have T4 := Lib.hid (T3.out.below hb4 (Nat.le_refl _))
      obtain ⟨q0, q1, hz4⟩ := box2' hb4
      replace hb := below_trans (below_alloc hb _) hb4
      clear p0 p1 hz1 hb4 T3 HC HP HS HT
      obtain ⟨p0, p1, hz1⟩ := box2' hb
      have hend := fun o => box_end (below_alloc hb o)
      go_wp2_with fail
      go_ret
      exact ⟨rfl, hend _⟩
  · have hl0' : ((l.length : Int) == 0) = false := beq_eq_false_iff_ne.2 (by omega)
    have hl1 : 0 < l.length := by omega
    have hl2 : (0 : Int) < l.length := by omega
    clear HNil hl0
    rcases ha with ⟨he, g1, g2, rfl, rfl⟩ | he
    all_goals
      go_enter Try.func6, Try.ntmps6
      go_wp2_with fail
      refine (awake_any _).mono ?_
      rintro e w1 ⟨rfl, hb1⟩
      have T1 := Lib.hid ((HT.out.alloc _).below hb1 (Nat.le_refl _))
      obtain ⟨p0, p1, hz1⟩ := box2' hb1
      go_wp2_with fail
      refine (HS.out _).mono ?_
      rintro e w2 ⟨rfl, hb2⟩
      have T2 := Lib.hid (T1.out.below hb2 (Nat.le_refl _))
      have hb := below_trans hb1 hb2
      clear p0 p1 hz1 hb1 hb2 T1
      obtain ⟨p0, p1, hz1⟩ := box2' hb
      go_wp2_with fail
      refine (HC.out _ T2.out).mono ?_
      rintro e w3 ⟨rfl, hb3⟩
      have T3 := Lib.hid ((T2.out.below hb3 (Nat.le_refl _)).alloc (.cells #[.int .i64 (cl + idx), .int .i64 (ch + idx)] 33))
      replace hb := below_trans hb hb3
      clear p0 p1 hz1 hb3 T2
      obtain ⟨p0, p1, hz1⟩ := box2' hb
      go_wp2_with fail
      refine (HP.out _ T3.out).mono ?_
      rintro e w4 ⟨rfl, hb4⟩
      have T4 := Lib.hid (T3.out.below hb4 (Nat.le_refl _))
      obtain ⟨q0, q1, hz4⟩ := box2' hb4
      replace hb := below_trans (below_alloc hb _) hb4
      clear p0 p1 hz1 hb4 T3 HC HP HS HT
      obtain ⟨p0, p1, hz1⟩ := box2' hb
      obtain ⟨b, off, rfl, hE⟩ := T4.out hl1
      obtain ⟨hc0, hc1⟩ := hE.2 0 hl1
      simp only [Nat.zero_mul, Nat.add_zero] at hc0 hc1
      have hbs : b < w4.heap.size := hE.1
      have hend := box_end hb
      go_wp2_with fail
      go_quiet (fail)
      go_wp2_with fail
      go_loopw [13, 14, 96] (fun s13 s14 s96 wr => ∃ (k : Nat) (m M : Int), k ≤ l.length ∧ s96 = .int .i64 k ∧ s13 = .int .i64 m ∧ s14 = .int .i64 M ∧ -10000 ≤ m ∧ m ≤ M ∧ M ≤ 10000 ∧ Hid (∀ i, i < k → m ≤ valAt l i ∧ valAt l i ≤ M) ∧ Below w4.heap.size w4 wr) (fun _ _ i _ => l.length - (intOf i).toNat)
      case atStart =>
        obtain ⟨_, _, g1, g2, _⟩ := HVa.out 0 hl1
        exact ⟨0, valAt l 0, valAt l 0, Nat.zero_le _, rfl, rfl, rfl, g1, by omega, g2, fun i hi => by omega, below_drewN (below_alloc (Below.refl _ _) _) _⟩
      case round =>
        obtain ⟨k, m, M, hk, rfl, rfl, rfl, hm, hmM, hM, hall, hbr⟩ := hrel
        have hzr : w4.heap.size ≤ wr.heap.size := hbr.size
        by_cases hlt : k < l.length
        · obtain ⟨hd0, hd1⟩ := (hE.below hbr hbs).2 k hlt
          obtain ⟨_, _, g1, g2, _⟩ := HVa.out k hlt
          have hnew : ∀ m' M', (m' ≤ m ∧ m' ≤ valAt l k) → (M ≤ M' ∧ valAt l k ≤ M') → Hid (∀ i, i < k + 1 → m' ≤ valAt l i ∧ valAt l i ≤ M') := by
            intro m' M' h1 h2 i hi
            by_cases hik : i = k
            · subst hik; omega
            · have := hall.out i (by omega); omega
          have HN := Lib.hid hnew
          clear hnew
          by_cases c1 : m ≤ valAt l k
          · by_cases c2 : valAt l k ≤ M
            · have c3 : ¬ M < valAt l k := by omega
              go_wp2_with fail
              go_region
              go_wp2
              go_roundw
              case rel => exact ⟨k + 1, m, M, by omega, by go_num, rfl, rfl, by omega, by omega, by omega, HN.out _ _ (by omega) (by omega), by repeat (first | exact hbr | refine Below.drew ?_ | refine below_alloc ?_ _)⟩
              case measure => simp [intOf]; omega
            · have c3 : M < valAt l k := by omega
              go_wp2_with fail
              go_region
              go_wp2
              go_roundw
              case rel => exact ⟨k + 1, m, valAt l k, by omega, by go_num, rfl, rfl, by omega, by omega, by omega, HN.out _ _ (by omega) (by omega), by repeat (first | exact hbr | refine Below.drew ?_ | refine below_alloc ?_ _)⟩
              case measure => simp [intOf]; omega
          · have c2 : valAt l k ≤ M := by omega
            have c3 : valAt l k < m := by omega
            go_wp2_with fail
            go_region
            go_wp2
            go_roundw
            case rel => exact ⟨k + 1, valAt l k, M, by omega, by go_num, rfl, rfl, by omega, by omega, by omega, HN.out _ _ (by omega) (by omega), by repeat (first | exact hbr | refine Below.drew ?_ | refine below_alloc ?_ _)⟩
            case measure => simp [intOf]; omega
        · obtain rfl : k = l.length := by omega
          obtain ⟨b1, b2, b3, b4⟩ := HBd.out hl1 m M hall.out
          have hmod : kn % l.length < l.length := Nat.mod_lt _ hl1
          generalize hj : kn % l.length = j at hmod
          have HJ := Lib.hid hj
          have HJ2 : Hid ((kn : Int) % (l.length : Int) = (j : Int)) := by show _ = _; omega
          have HJ3 : Hid ((kn : Int).tmod (l.length : Int) = (j : Int)) := by show _ = _; rw [Int.tmod_eq_emod_of_nonneg (by omega)]; omega
          clear hj
          obtain ⟨hd0, hd1⟩ := (hE.below hbr hbs).2 j hmod
          have HCj := Lib.hid (HC2.out j hmod)
          obtain ⟨e1, e2⟩ := HC3.out j hmod
          rw [e1, e2] at HCj
          clear e1 e2 HC2 HC3 HBd
          have g3 := HVa.out j hmod
          obtain ⟨_, _, g1, g2, _⟩ := g3
          have Tr := Lib.hid (T4.out.below hbr (Nat.le_refl _))
          obtain ⟨x0, x1⟩ := And.intro (hbr.cell (p := ⟨w.heap.size, 0, none⟩) hz1) (hbr.cell (p := ⟨w.heap.size, 1, none⟩) hz1)
          obtain ⟨x2, x3⟩ := And.intro (hbr.cell (p := ⟨w3.heap.size, 0, none⟩) hz4) (hbr.cell (p := ⟨w3.heap.size, 1, none⟩) hz4)
          rw [p0] at x0
          rw [p1] at x1
          rw [q0] at x2
          rw [q1] at x3
          have hwr : w.heap.size < wr.heap.size := by omega
          have hw3r : w3.heap.size < wr.heap.size := by omega
          have hbr' : b < wr.heap.size := by omega
          have hendr := below_trans hend hbr
          clear p0 p1 q0 q1 hb hE hc0 hc1 hbr T4 hall
          have j1 : (j : Int) < l.length := by omega
          go_wp2_with fail
          have j2 := HJ.out
          have j3 := HJ2.out
          have j4 := HJ3.out
          go_region
          clear j2 j3 j4 HJ HJ2 HJ3
          go_wp2_with fail
          refine (HCj.out (wr.alloc (.cells #[.int .i64 (atAt l j), .int .i64 (valAt l j)] 42)).drew (Tr.out.alloc _)).mono ?_
          rintro e w9 ⟨rfl, hb9⟩
          have hb9 : Below _ (wr.alloc (.cells #[.int .i64 (atAt l j), .int .i64 (valAt l j)] 42)) w9 := below_trans ((Below.refl _ _).drew) hb9
          obtain ⟨r0, r1, hz9⟩ := box2' hb9
          have y0 := hb9.cell (p := ⟨w.heap.size, 0, none⟩) (by simp; omega)
          have y1 := hb9.cell (p := ⟨w.heap.size, 1, none⟩) (by simp; omega)
          have y2 := hb9.cell (p := ⟨w3.heap.size, 0, none⟩) (by simp; omega)
          have y3 := hb9.cell (p := ⟨w3.heap.size, 1, none⟩) (by simp; omega)
          rw [World.cell?_alloc_lt _ _ _ hwr, x0] at y0
          rw [World.cell?_alloc_lt _ _ _ hwr, x1] at y1
          rw [World.cell?_alloc_lt _ _ _ hw3r, x2] at y2
          rw [World.cell?_alloc_lt _ _ _ hw3r, x3] at y3
          have k1 : w.heap.size < w9.heap.size := by omega
          have k2 : w3.heap.size < w9.heap.size := by omega
          replace hendr := below_trans (below_alloc hendr _) hb9
          clear x0 x1 x2 x3 hb9 HCj Tr hd0 hd1 HVa
          go_wp2_with fail
          go_ret
          exact ⟨rfl, below_alloc hendr _⟩
theorem lawBetween_walk (w : World) (idx : Int) (A : Option Addr) (c : Nat) (l : List (Int × Int)) (wi0 : I64 idx) (hT : Tab w A l) (hs : Int) (w1 : I64 hs) (wi : Int) (w2 : I64 wi) (k : Int) (hk : 0 ≤ k ∧ k ≤ 255) :
    Calls Try.prog 6 #[.agg #[.int .i64 idx, .slice A l.length c], .int .i64 hs, .int .i64 wi, .int .u8 k] w fun e w' => e = .returned (.bool true) ∧ Below w.heap.size w w' := by
  by_cases hl : 60 < l.length
  · exact lawBetween_long w idx A c l hs wi k hl
  · have hl : l.length ≤ 60 := by omega
    by_cases hv : Valid18 idx l
    · by_cases hh : hs < -60000 ∨ 7800000 < hs
      · exact lawBetween_err w idx A c l hs wi k hl hT 2 rfl (fun W hW => corr_range idx A c l hs W hW hv hh)
      · obtain ⟨kn, rfl⟩ := Int.eq_ofNat_of_zero_le hk.1
        by_cases hb : wi < 0 ∨ 60000 < wi
        · exact lawBetween_ok w idx A c l hs wi kn hl hT hv (by omega) (by omega) (by omega) 0 0 2 (.inr rfl) (fun W hW => apply_range idx A c l hs wi W hW hv (by omega) (by omega) hb)
        · exact lawBetween_ok w idx A c l hs wi kn hl hT hv (by omega) (by omega) (by omega) _ _ 0 (.inl ⟨rfl, by omega, by omega, rfl, rfl⟩) (fun W hW => apply_ok idx A c l hs wi W hW hv (by omega) (by omega) (by omega) (by omega))
    · exact lawBetween_err w idx A c l hs wi k hl hT 1 rfl (fun W hW => corr_arg idx A c l hs W hW hv)
end Go.Proofs.Ytdjlickmjfpokaa
