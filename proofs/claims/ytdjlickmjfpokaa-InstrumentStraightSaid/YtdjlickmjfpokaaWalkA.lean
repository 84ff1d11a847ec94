/- Contracts of the small functions of the instrument and of its reference: quotients, ranges, the binary search. -/
import Derived.Test.YtdjlickmjfpokaaRows
import Derived.Test.YtdjlickmjfpokaaPlain
import Derived.WalkKit
import Derived.WalkLawsBesides
import Derived.WalkSpells
import Derived.BigQuiet
import Derived.Deep.QuietTactic
import Derived.Outline
import Derived.Handy
namespace Go.Proofs.Ytdjlickmjfpokaa
open Go.RowKit

theorem within_yes (n k : Int) (w : World) (h1 : -k ≤ n) (h2 : n ≤ k) (hk : 0 ≤ k ∧ k ≤ 1000000000) :
    Calls Try.prog 33 #[.int .i64 n, .int .i64 k] w fun e w' => e = .returned (.bool true) ∧ w = w' := by
  obtain ⟨_, _⟩ := hk
  go_enter Try.func33, Try.ntmps33
  go_wp2
  go_ret
  exact ⟨rfl, rfl⟩
theorem within_no (n k : Int) (w : World) (h : n < -k ∨ k < n) (hk : 0 ≤ k ∧ k ≤ 1000000000) :
    Calls Try.prog 33 #[.int .i64 n, .int .i64 k] w fun e w' => e = .returned (.bool false) ∧ w = w' := by
  obtain ⟨_, _⟩ := hk
  by_cases h0 : n < -k
  · clear h
    go_enter Try.func33, Try.ntmps33
    go_wp2
    go_ret
    exact ⟨rfl, rfl⟩
  · have h' : -k ≤ n := by omega
    have h'' : k < n := by omega
    clear h h0
    go_enter Try.func33, Try.ntmps33
    go_wp2
    go_ret
    exact ⟨ret_bool (by simpa using h''), rfl⟩
theorem reading_yes (n : Int) (w : World) (h1 : -60000 ≤ n) (h2 : n ≤ 7800000) :
    Calls Try.prog 31 #[.int .i64 n] w fun e w' => e = .returned (.bool true) ∧ w = w' := by
  go_enter Try.func31, Try.ntmps31
  go_wp2
  go_ret
  exact ⟨rfl, rfl⟩
theorem reading_no (n : Int) (w : World) (h : n < -60000 ∨ 7800000 < n) :
    Calls Try.prog 31 #[.int .i64 n] w fun e w' => e = .returned (.bool false) ∧ w = w' := by
  by_cases h0 : n < -60000
  · clear h
    go_enter Try.func31, Try.ntmps31
    go_wp2
    go_ret
    exact ⟨rfl, rfl⟩
  · have h' : -60000 ≤ n := by omega
    have h'' : 7800000 < n := by omega
    clear h h0
    go_enter Try.func31, Try.ntmps31
    go_wp2
    go_ret
    exact ⟨ret_bool (by simpa using h''), rfl⟩
theorem floor_any (a b : Int) (w : World) (hb : 1 ≤ b ∧ b ≤ 1000000000) (ha : -1000000000000000000 ≤ a ∧ a ≤ 1000000000000000000) :
    Calls Try.prog 28 #[.int .i64 a, .int .i64 b] w fun e w' => e = .returned (.int .i64 (a / b)) ∧ w = w' := by
  obtain ⟨hb1, hb2⟩ := hb
  obtain ⟨ha1, ha2⟩ := ha
  obtain ⟨hq1, hq2⟩ := tdiv_bd hb1 ha1 ha2 (by omega) (by omega)
  go_enter Try.func28, Try.ntmps28
  go_wp2
  · have h : a.tmod b < 0 := by assumption
    go_ret
    exact ⟨ret_int (tmod_lt_zero_floor (by omega) h), rfl⟩
  · have h : 0 ≤ a.tmod b := by assumption
    go_ret
    exact ⟨ret_int (tmod_nonneg_floor (by omega) h), rfl⟩
theorem arcF (x y n : Int) (w : World) (hx : 0 ≤ x ∧ x ≤ 100000000) (hn : -100000000 ≤ n ∧ n ≤ 100000000) :
    Calls Try.prog 38 #[.agg #[.int .i64 x, .int .i64 y], .int .i64 n] w fun e w' => e = .returned (.int .i64 (x - n)) ∧ Below w.heap.size w w' := by
  obtain ⟨_, _⟩ := hx
  obtain ⟨_, _⟩ := hn
  go_enter Try.func38, Try.ntmps38
  go_wp2
  go_ret
  exact ⟨rfl, (Below.refl _ _).alloc (Nat.le_refl _) _⟩
set_option maxHeartbeats 1000000 in
theorem bsf_arcF (b off c : Nat) (l : List (Int × Int)) (hs : Int) (w : World) (hn40 : l.length ≤ 100) (hs1 : -100000000 ≤ hs ∧ hs ≤ 100000000)
    (hr : Hid (∀ k, k < l.length → 0 ≤ atAt l k ∧ atAt l k ≤ 100000000)) (hA : Asc l) (hE : Ents w b off l) :
    Calls Try.prog 23 #[.slice (some ⟨b, off, none⟩) l.length c, .int .i64 hs, .func (.func 38) #[] #[]] w fun e w' =>
      ∃ p : Nat, Found l hs p ∧ e = .returned (.tuple #[.int .i64 p, .bool (there l hs p)]) ∧ Below w.heap.size w w' := by
  obtain ⟨hs1, hs2⟩ := hs1
  go_enter Try.func23, Try.ntmps23
  go_wp2
  go_loopw [9, 10] (fun i j wr => ∃ p q : Nat, p ≤ q ∧ q ≤ l.length ∧ i = .int .i64 p ∧ j = .int .i64 q ∧ Below w.heap.size w wr ∧ Hid (∀ k, k < p → atAt l k < hs) ∧ Hid (∀ k, q ≤ k → k < l.length → hs ≤ atAt l k)) (fun i j _ => (intOf j - intOf i).toNat)
  case atStart => exact ⟨0, l.length, by omega, by omega, rfl, rfl, Below.refl _ _, fun k hk => by omega, fun k h1 h2 => by omega⟩
  case round =>
    obtain ⟨p, q, hpq, hqn, rfl, rfl, hb, H1, H2⟩ := hrel
    by_cases hlt : p < q
    · obtain ⟨hc1, hc2⟩ := (hE.below hb hE.1).2 ((p + q) / 2) (by omega)
      have hm : (p + q) / 2 < l.length := by omega
      have ⟨h1, h2⟩ := hr.out ((p + q) / 2) hm
      by_cases hcmp : atAt l ((p + q) / 2) < hs
      · go_wp2_with (go_at_call 38; refine (arcF _ _ _ _ ⟨h1, h2⟩ ⟨hs1, hs2⟩).mono ?_; rintro e w1 ⟨rfl, hb1⟩)
        go_roundw
        case rel =>
          refine ⟨(p + q) / 2 + 1, q, by omega, hqn, by go_num, rfl, hb.trans (hb1.mono hb.size), fun k hk => ?_, H2⟩
          rcases Nat.lt_or_ge k ((p + q) / 2) with h | h
          · have := hA k _ h hm; omega
          · obtain rfl : k = (p + q) / 2 := by omega
            exact hcmp
        case measure => simp [intOf]; omega
      · go_wp2_with (go_at_call 38; refine (arcF _ _ _ _ ⟨h1, h2⟩ ⟨hs1, hs2⟩).mono ?_; rintro e w1 ⟨rfl, hb1⟩)
        go_roundw
        case rel =>
          refine ⟨p, (p + q) / 2, by omega, by omega, rfl, by go_num, hb.trans (hb1.mono hb.size), H1, fun k hk hkl => ?_⟩
          rcases Nat.lt_or_ge ((p + q) / 2) k with h | h
          · have := hA _ k h hkl; omega
          · obtain rfl : k = (p + q) / 2 := by omega
            omega
        case measure => simp [intOf]; omega
    · obtain rfl : p = q := by omega
      have HF : Hid (Found l hs p) := ⟨hqn, H1.out, H2.out⟩
      clear H1 H2
      by_cases hpn : p < l.length
      · obtain ⟨hc1, hc2⟩ := (hE.below hb hE.1).2 p hpn
        have ⟨h1, h2⟩ := hr.out p hpn
        go_wp2_with (go_at_call 38; refine (arcF _ _ _ _ ⟨h1, h2⟩ ⟨hs1, hs2⟩).mono ?_; rintro e w1 ⟨rfl, hb1⟩)
        go_ret2
        exact ⟨p, HF.out, ret_ib rfl (there_lt hpn), hb.trans (hb1.mono hb.size)⟩
      · go_wp2
        go_ret2
        exact ⟨p, HF.out, ret_ib rfl (there_ge hpn), hb⟩
end Go.Proofs.Ytdjlickmjfpokaa
