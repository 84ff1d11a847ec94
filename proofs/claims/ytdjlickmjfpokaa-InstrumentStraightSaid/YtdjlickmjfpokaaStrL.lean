/- The law: a further entry on the straight line changes nothing. -/
import Derived.Test.YtdjlickmjfpokaaStrW
namespace Go.Proofs.Ytdjlickmjfpokaa
open Go Go.Abs Go.RowKit
set_option linter.unusedVariables false
set_option linter.unusedSimpArgs false
theorem step_f {p : Prop} [Decidable p] {X Y : Prop} (h : ¬ p) (y : Y) : bcase (decide p) X Y := by rw [decide_eq_false h]; exact y
theorem tkz {α : Type} {x : List α} {p : List α → Prop} (h : p x) : 0 + x.length ≤ x.length ∧ ∀ z, z = List.take x.length x → p z := ⟨by omega, fun z hz => by rw [hz, List.take_length]; exact h⟩
theorem clamp_is (k m : Int) (hk : -60000 ≤ k ∧ k ≤ 60000) (hm : -32768 ≤ m ∧ m ≤ 32767) : ∃ j, (if (if 60000 < IntKind.i64.wrap (k + IntKind.i64.wrap m) then 60000 else IntKind.i64.wrap (k + IntKind.i64.wrap m)) > -60000 then if 60000 < IntKind.i64.wrap (k + IntKind.i64.wrap m) then 60000 else IntKind.i64.wrap (k + IntKind.i64.wrap m) else -60000) = j ∧ -60000 ≤ j ∧ j ≤ 60000 := by
  rw [wrap_in (n := m) (by omega), wrap_in (n := k + m) (by omega)]
  refine ⟨_, rfl, ?_⟩
  split <;> split <;> omega
theorem law_straight (k : Int) (xs : List (Int × Int)) (hs n m : Int) (hm : -32768 ≤ m ∧ m ≤ 32767) :
    RAns Try.prog Any 8 [insA k xs, .one (.v (num hs)), .one (.v (num n)), .one (.v (.int .i16 m))] [.one (.v (.bool true))] := by
  refine rfn_by st_any s_St (vc_lawStraight k xs hs n m _ _ _ _ _ _) ⟨trivial, bcase_iff.mpr ⟨fun _ => ⟨rfl, trivial⟩, fun q39 => tkz ⟨trivial, bcase_iff.mpr ⟨fun _ => ⟨rfl, trivial⟩, fun qv => bcase_iff.mpr ⟨fun _ => ⟨rfl, trivial⟩, fun q1 => bcase_iff.mpr ⟨fun _ => ⟨rfl, trivial⟩, fun q2 => bcase_iff.mpr ⟨fun _ => ⟨rfl, trivial⟩, fun q3 => bcase_iff.mpr ⟨fun _ => ⟨rfl, trivial⟩, fun q4 => tkz ⟨trivial, tkz ⟨trivial, ?_⟩⟩⟩⟩⟩⟩⟩⟩⟩⟩
  have q39 := of_decide_eq_false q39
  have qv : Valid18 k xs := by
    have : vldB k xs = true := by simpa using qv
    exact of_decide_eq_true this
  have q1 := of_decide_eq_false q1
  have q2 := of_decide_eq_false q2
  have q3 := of_decide_eq_false q3
  have q4 := of_decide_eq_false q4
  have hA := asc_of qv
  obtain ⟨j, ej, j0, j1⟩ := clamp_is k m ⟨qv.1, qv.2.1⟩ hm
  rw [ej]
  have vj : Valid18 j xs := ⟨j0, j1, qv.2.2⟩
  obtain ⟨a1, a2, a3⟩ := c_yes (k := k) (xs := xs) (h := hs) ⟨qv, by omega, by omega⟩
  obtain ⟨b1, b2, b3⟩ := c_yes (k := j) (xs := xs) (h := hs) ⟨vj, by omega, by omega⟩
  obtain ⟨c1, c2, c3⟩ := c_yes (k := k) (xs := xs) (h := n) ⟨qv, by omega, by omega⟩
  obtain ⟨d1, d2, d3, d4⟩ := c_bd' qv hs
  obtain ⟨f1, f2, f3, f4⟩ := c_bd' qv n
  have k0 := qv.1
  have k1 := qv.2.1
  rw [a1, a2, a3, b1, b2, b3, show ((0 : Int) != 0) = false from rfl, bcase_false, bcase_false, wrap_in (n := j - k) (by omega), wrap_in (n := cLo xs hs + k + (j - k)) (by omega), wrap_in (n := cHi xs hs + k + (j - k)) (by omega),
    show cLo xs hs + k + (j - k) = cLo xs hs + j by omega, show cHi xs hs + k + (j - k) = cHi xs hs + j by omega,
    show (!(cLo xs hs + j == cLo xs hs + j && (cHi xs hs + j == cHi xs hs + j && true))) = false by simp, bcase_false]
  refine tkz ⟨trivial, ?_⟩
  rw [c1, c2, c3, show ((0 : Int) != 0) = false from rfl, bcase_false]
  refine bcase_iff.mpr ⟨fun _ => ⟨rfl, trivial⟩, fun qx => tkz ⟨⟨by omega, by omega, by omega, rfl, hA, fun i hi => ?_⟩, bcase_iff.mpr ⟨fun _ => ⟨rfl, trivial⟩, fun qt => bcase_iff.mpr ⟨fun _ => ⟨rfl, trivial⟩, fun q0 => ?_⟩⟩⟩⟩
  · have := qv.2.2.2 i hi
    exact ⟨this.1, by have := this.2.1; omega⟩
  have qx : cLo xs n = cHi xs n := by
    have : cLo xs n + k = cHi xs n + k := by simpa using qx
    omega
  have hl : 0 < xs.length := by
    have : (xs.length : Int) ≠ 0 := by simpa using q0
    omega
  have hF := pos_found (hs := n) hA
  have qt : there xs n (pos xs n) = false := qt
  have hn : pos xs n < xs.length → atAt xs (pos xs n) ≠ n := fun h e => by
    unfold there at qt
    exact of_decide_eq_false qt ⟨h, e⟩
  have hO := on_line qv hl hF hn rfl qx.symm
  have le := hF.1
  rw [List.take_length, wrap_in (n := cLo xs n + k - k) (by omega), show cLo xs n + k - k = cLo xs n by omega]
  have ei : insI xs (bpF xs n) (n, cLo xs n) = ins xs (pos xs n) (n, cLo xs n) := by
    unfold insI bpF
    rw [Int.toNat_natCast]
  have vi := straight_valid qv (show xs.length ≤ 39 by omega) (show 0 ≤ n ∧ n ≤ 7800000 by omega) (x := cLo xs n) (by omega) hl hO
  obtain ⟨e1, e2⟩ := straight_c qv vi hl hO hs
  rw [ei]
  refine ⟨by omega, ⟨fun e => by rw [e] at hl; simp at hl, show xs.length ≤ 1000 by omega⟩, rfl, ⟨by omega, by omega, by unfold bpF; omega, by unfold bpF; omega⟩, rfl, fun z hz => ?_⟩
  subst hz
  obtain ⟨g1, g2, g3⟩ := c_yes (k := k) (h := hs) ⟨vi, by omega, by omega⟩
  rw [g1, g2, g3, e1, e2, show ((0 : Int) == 0) = true from rfl, bcase_true, show (cLo xs hs + k == cLo xs hs + k && (cHi xs hs + k == cHi xs hs + k && true)) = true by simp]
  exact ⟨trivial, rfl, trivial⟩
/-- The contract at arguments that come in. -/
theorem walk_straight (W : World) (k : Int) (A : Option Addr) (c : Nat) (l : List (Int × Int)) (wk : I64 k) (hT : Tab W A l) (hs : Int) (w1 : I64 hs) (n : Int) (w2 : I64 n) (m : Int) (hm : -32768 ≤ m ∧ m ≤ 32767) (hc : l.length ≤ c) :
    Calls Try.prog 8 #[.agg #[.int .i64 k, .slice A l.length c], .int .i64 hs, .int .i64 n, .int .i16 m] W fun e w' => e = .returned (.bool true) ∧ Below W.heap.size W w' := by
  refine (law_straight k l hs n m hm W [.agg #[.int .i64 k, .slice A l.length c], .int .i64 hs, .int .i64 n, .int .i16 m] [.int .i64 k, .slice A l.length c, .int .i64 hs, .int .i64 n, .int .i16 m] trivial ⟨[_, _], _, rfl, rfl, rfl, _, rfl, _, rfl, _, rfl, rfl⟩ ⟨rfl, tab_holds hT hc, rfl, rfl, rfl, trivial⟩).mono ?_
  rintro e w' ⟨hb, rvs, rcells, gs, he, hsh, hcd, _⟩
  refine ⟨?_, hb⟩
  cases rvs with
  | nil => exact hsh.elim
  | cons r rvs =>
    obtain ⟨cs, rfl, hsh⟩ := hsh
    cases rvs with
    | nil =>
      have : r = .bool true := hcd.1
      subst this
      exact he
    | cons _ _ => exact hsh.elim
end Go.Proofs.Ytdjlickmjfpokaa
