/- A further entry: the search in the law; slices that are copied within their own rows. -/
import Derived.Test.YtdjlickmjfpokaaWalkE
import Derived.Test.YtdjlickmjfpokaaPlainS
import Derived.Laws.CopyRow
import Derived.Laws.AppendOwn
import Derived.Lib.AppendZeros
import Derived.Lib.AppendZerosOnto
import Derived.Lib.Overlaps
import Derived.Shelf.Spec.SlicesInsert
namespace Go.Proofs.Ytdjlickmjfpokaa
open Go.RowKit
set_option linter.unusedVariables false
set_option linter.unusedSimpArgs false
theorem strF (x y n : Int) (w : World) (hx : 0 ≤ x ∧ x ≤ 100000000) (hn : -100000000 ≤ n ∧ n ≤ 100000000) :
    Calls Try.prog 24 #[.agg #[.int .i64 x, .int .i64 y], .int .i64 n] w fun e w' => e = .returned (.int .i64 (x - n)) ∧ Below w.heap.size w w' := by
  obtain ⟨_, _⟩ := hx
  obtain ⟨_, _⟩ := hn
  go_enter Try.func24, Try.ntmps24
  go_wp2
  go_ret
  exact ⟨rfl, (Below.refl _ _).alloc (Nat.le_refl _) _⟩
set_option maxHeartbeats 1000000 in
theorem bsf_strF (b off c : Nat) (l : List (Int × Int)) (hs : Int) (w : World) (hn40 : l.length ≤ 100) (hs1 : -100000000 ≤ hs ∧ hs ≤ 100000000)
    (hr : Hid (∀ k, k < l.length → 0 ≤ atAt l k ∧ atAt l k ≤ 100000000)) (hA : Asc l) (hE : Ents w b off l) :
    Calls Try.prog 23 #[.slice (some ⟨b, off, none⟩) l.length c, .int .i64 hs, .func (.func 24) #[] #[]] w fun e w' =>
      ∃ p : Nat, Found l hs p ∧ e = .returned (.tuple #[.int .i64 p, .bool (there l hs p)]) ∧ Below w.heap.size w w' := by
  obtain ⟨hs1, hs2⟩ := hs1
  go_enter Try.func23, Try.ntmps23
  go_wp2
  go_loopw [9, 10] (fun i j wr => ∃ p q : Nat, p ≤ q ∧ q ≤ l.length ∧ i = .int .i64 p ∧ j = .int .i64 q ∧ Below w.heap.size w wr ∧ Hid (∀ k, k < p → atAt l k < hs) ∧ Hid (∀ k, q ≤ k → k < l.length → hs ≤ atAt l k)) (fun i j _ => (intOf j - intOf i).toNat)
  case atStart => exact ⟨0, l.length, by omega, by omega, rfl, rfl, Below.refl _ _, fun k hk => by omega, fun k h1 h2 => by omega⟩
  case round =>
    obtain ⟨p, q, hpq, hqn, rfl, rfl, hb, H1, H2⟩ := hrel
    by_cases hlt : p < q
    · obtain ⟨hc1, hc2⟩ := (hE.below hb hE.1).2 ((p + q) / 2) (by omega)
      have hm : (p + q) / 2 < l.length := by omega
      have ⟨h1, h2⟩ := hr.out ((p + q) / 2) hm
      by_cases hcmp : atAt l ((p + q) / 2) < hs
      · go_wp2_with (go_at_call 24; refine (strF _ _ _ _ ⟨h1, h2⟩ ⟨hs1, hs2⟩).mono ?_; rintro e w1 ⟨rfl, hb1⟩)
        go_roundw
        case rel =>
          refine ⟨(p + q) / 2 + 1, q, by omega, hqn, by go_num, rfl, hb.trans (hb1.mono hb.size), fun k hk => ?_, H2⟩
          rcases Nat.lt_or_ge k ((p + q) / 2) with h | h
          · have := hA k _ h hm; omega
          · obtain rfl : k = (p + q) / 2 := by omega
            exact hcmp
        case measure => simp [intOf]; omega
      · go_wp2_with (go_at_call 24; refine (strF _ _ _ _ ⟨h1, h2⟩ ⟨hs1, hs2⟩).mono ?_; rintro e w1 ⟨rfl, hb1⟩)
        go_roundw
        case rel =>
          refine ⟨p, (p + q) / 2, by omega, by omega, rfl, by go_num, hb.trans (hb1.mono hb.size), H1, fun k hk hkl => ?_⟩
          rcases Nat.lt_or_ge ((p + q) / 2) k with h | h
          · have := hA _ k h hkl; omega
          · obtain rfl : k = (p + q) / 2 := by omega
            omega
        case measure => simp [intOf]; omega
    · obtain rfl : p = q := by omega
      have HF : Hid (Found l hs p) := ⟨hqn, H1.out, H2.out⟩
      clear H1 H2
      by_cases hpn : p < l.length
      · obtain ⟨hc1, hc2⟩ := (hE.below hb hE.1).2 p hpn
        have ⟨h1, h2⟩ := hr.out p hpn
        go_wp2_with (go_at_call 24; refine (strF _ _ _ _ ⟨h1, h2⟩ ⟨hs1, hs2⟩).mono ?_; rintro e w1 ⟨rfl, hb1⟩)
        go_ret2
        exact ⟨p, HF.out, ret_ib rfl (there_lt hpn), hb.trans (hb1.mono hb.size)⟩
      · go_wp2
        go_ret2
        exact ⟨p, HF.out, ret_ib rfl (there_ge hpn), hb⟩
theorem bsf_strF_nil (A : Option Addr) (c : Nat) (hs : Int) (w : World) :
    Calls Try.prog 23 #[.slice A 0 c, .int .i64 hs, .func (.func 24) #[] #[]] w fun e w' => e = .returned (.tuple #[.int .i64 0, .bool false]) ∧ w = w' := by
  go_enter Try.func23, Try.ntmps23
  go_wp2
  go_loopw [9, 10] (fun i j wr => i = .int .i64 0 ∧ j = .int .i64 0 ∧ wr = w) (fun i j _ => 0)
  case atStart => exact ⟨rfl, rfl, rfl⟩
  case round =>
    obtain ⟨rfl, rfl, rfl⟩ := hrel
    go_wp2
    go_ret2
    exact ⟨rfl, rfl⟩
theorem run_copy_rowZ {P : Program} (w : World) (dT sT ty elem : TypeId) (z g o dLen dCap : Nat) (a : Addr) (sLen sCap : Nat) (cur : Array Value) (t : TypeId) (cs : List Value)
    (hu : P.underlying dT = some (.slice elem)) (hs : (P.info? elem).map (·.size) = some z)
    (hg : w.heap[g]? = some (.cells cur t (0, 0))) (hn : cs.length = Nat.min sLen dLen * z)
    (hsrc : ∀ j v, cs[j]? = some v → w.cell? (a.add j) = some v) (hfit : o + cs.length ≤ cur.size) (h1 : ∀ v ∈ cs, v.oneCell' = true) :
    (Builtin.copy_ #[dT, sT] ty #[.slice (some ⟨g, o, none⟩) dLen dCap, .slice (some a) sLen sCap]).run P w =
      .ok (goInt (Nat.min sLen dLen)) (w.setRow g (cur.toList.take o ++ cs ++ cur.toList.drop (o + cs.length)).toArray) := by
  have hl := run_loadCells_list (P := P) w a cs hsrc
  have hst := run_storeCells_at P g o t cs 0 cur w hg (by simpa using hfit) h1
  cases hq : P.info? elem with
  | none => simp [hq] at hs
  | some i =>
    have hi : i.size = z := by simpa [hq] using hs
    subst hi
    simp only [Nat.add_zero] at hst
    simp [Builtin.copy_, run_underlying hu, Builtin.lenOf, Builtin.firstCells, sizeOf, typeInfo, hq, ← hn, hl, hst]
end Go.Proofs.Ytdjlickmjfpokaa
