/- Contract: the reference's reading of a text of an instrument. -/
import Derived.Test.YtkcelhhhbbpbpaaDoorInF
import Derived.Test.YtkcelhhhbbpbpaaDoorInGV
namespace Go.Proofs.YtkcelhhhbbpbpaaDoor
open Go Go.Abs Go.RowKit
set_option linter.unusedVariables false
set_option linter.unusedSimpArgs false
def lxB (s : ByteArray) (a : Int) : ByteArray := if 10 ∈ s.data.toList.drop a.toNat then ⟨(lnH (s.data.toList.drop a.toNat)).toArray⟩ else ⟨#[]⟩
def loB (s : ByteArray) (a : Int) : Bool := decide (10 ∈ s.data.toList.drop a.toNat)
theorem ln_drop {r : List UInt8} (h : 10 ∈ r) : r.drop ((lnH r).length + 1) = lnT r ∧ (lnH r).length + 1 + (lnT r).length = r.length := by
  have e : r = lnH r ++ 10 :: lnT r := (split_at h).1
  generalize lnH r = T at *
  generalize lnT r = D at *
  subst e
  refine ⟨?_, by simp; omega⟩
  rw [show T ++ 10 :: D = (T ++ [10]) ++ D by simp, show T.length + 1 = (T ++ [10]).length by simp, List.drop_left]
theorem cap_ok {n : Nat} (h : n ≤ 100000) : capOk n 16 = true := by
  unfold capOk
  have : maxLen = 9223372036854775807 := rfl
  rw [Bool.and_eq_true]
  exact ⟨Nat.ble_eq_true_of_le (by omega), Nat.ble_eq_true_of_le (by omega)⟩
theorem pI_no {L : List UInt8} (h : 10 ∉ L) : pI L = (0, [], 1, 7) := by unfold pI; rw [if_neg h]
theorem pI_idx {L : List UInt8} (h : 10 ∈ L) (hi : idxL (lnH L) = none) : pI L = (0, [], 1, 7) := by unfold pI; rw [if_pos h, hi]
theorem pI_ent {L : List UInt8} {k : Int} {ln : Nat} {t : List (Int × Int)} (h : 10 ∈ L) (hi : idxL (lnH L) = some k) (hp : pEL (lnT L) [] 2 = (some ln, t)) : pI L = (0, [], ln, 7) := by unfold pI; rw [if_pos h, hi, hp]
theorem pI_end {L : List UInt8} {k : Int} {t : List (Int × Int)} (h : 10 ∈ L) (hi : idxL (lnH L) = some k) (hp : pEL (lnT L) [] 2 = (none, t)) : pI L = if Valid18 k t then (k, t, 0, 0) else (0, [], 0, 1) := by unfold pI; rw [if_pos h, hi, hp]
theorem r_rfParse (s : ByteArray) (h : SL s) : RAns Tryd.prog VT 11 [.one (.v (.string s))] [insA (pI s.data.toList).1 (pI s.data.toList).2.1, .one (.v (num ((pI s.data.toList).2.2.1 : Int))), .one (.v (num (pI s.data.toList).2.2.2))] := by
  refine rfn_by st_vt (Sound.cons (by kernel_rfl) (fun args p v h hp => by
      split at h <;> cases h
      rename_i s' a'
      obtain ⟨h1, h2, h3⟩ := hp
      have ea : ((a'.toNat : Nat) : Int) = a' := by omega
      have := c_rfLine st_vt s' h1 a'.toNat (by omega)
      rw [ea] at this
      exact this)
    (Sound.cons (by kernel_rfl) (fun args p v h hp => by split at h <;> cases h; exact c_word st_vt _ _ hp)
    (Sound.cons (by kernel_rfl) (fun args p v h hp => by split at h <;> cases h; exact c_integer _ hp)
    (Sound.cons (by kernel_rfl) (fun args p v h hp => by split at h <;> cases h; exact c_entry _ hp)
    (Sound.rcons (by kernel_rfl) (fun ads p rds h hp => by split at h <;> cases h; exact r_rfValid _ _) Sound.nil)))))
    (vc_rfParse s s.data.toList lxB loB wdB woB ivP noP (fun s => (entR s.data.toList).1) (fun s => (entR s.data.toList).2) (fun s => (entL s.data.toList).isSome) vldB _ _ _ _) ?_
  have hSL := h
  unfold SL at h
  have sz := Lib.size_eq s
  generalize hL : s.data.toList = L at *
  have out : ∀ {k t n e}, pI L = (k, t, n, e) → ∀ {k' : Int} {t' : List (Int × Int)} {n' e' : Int}, k' = k → t' = t → n' = (n : Int) → e' = e → (Value.int .i64 k' = Value.int .i64 (pI L).1 ∧ t' = (pI L).2.1 ∧ Value.int .i64 n' = Value.int .i64 ((pI L).2.2.1 : Int) ∧ Value.int .i64 e' = Value.int .i64 (pI L).2.2.2 ∧ True) := fun {k t n e} hp {k' t' n' e'} h1 h2 h3 h4 => by
    rw [hp]; subst h1 h2 h3 h4; exact ⟨rfl, rfl, rfl, rfl, trivial⟩
  refine ⟨(0, 0, 0, []), ⟨rfl, rfl, rfl, rfl, rfl, rfl, rfl, rfl, rfl, rfl, trivial⟩, ⟨Nat.zero_le _, fun _ => ⟨rfl, rfl⟩, fun h => absurd rfl h, Nat.le_refl _, Nat.le_refl _⟩, fun x hx => ?_⟩
  obtain ⟨n, a, k, t⟩ := x
  obtain ⟨hle, hn0, hn1, hna, hnt⟩ := hx
  dsimp only at *
  have w1 : IntKind.i64.wrap ((n : Int) + 1) = ((n + 1 : Nat) : Int) := by rw [wrap_in (by omega)]; rfl
  have hlk : LkOk s (a : Int) := ⟨hSL, by omega, by omega⟩
  have elo : loB s (a : Int) = decide (10 ∈ L.drop a) := by unfold loB; rw [hL, Int.toNat_natCast]
  rw [w1, elo]
  have round : ∀ {P Q : Prop}, (n ≠ 0 → a < L.length) →
      (10 ∉ L.drop a → P) →
      (10 ∈ L.drop a → Q) → bcase (!decide (10 ∈ L.drop a)) P Q := fun {P Q} _ hP hQ => bcase_iff.mpr ⟨fun q => hP (by simpa using q), fun q => hQ (by simpa using q)⟩
  have dlen : (L.drop a).length = L.length - a := List.length_drop
  -- a round's whole
  have body : (n ≠ 0 → a < L.length) →
      (bcase (!decide (10 ∈ L.drop a)) (Value.int .i64 0 = Value.int .i64 (pI L).1 ∧ [] = (pI L).2.1 ∧ Value.int .i64 ((n + 1 : Nat) : Int) = Value.int .i64 ((pI L).2.2.1 : Int) ∧ Value.int .i64 7 = Value.int .i64 (pI L).2.2.2 ∧ True)
        (bcase (((n + 1 : Nat) : Int) == 1)
          (WdOk (lxB s (a : Int)) (ByteArray.mk #[105, 110, 100, 101, 120]) ∧ SL (wdB (lxB s (a : Int)) (ByteArray.mk #[105, 110, 100, 101, 120])) ∧
            bcase (!woB (lxB s (a : Int)) (ByteArray.mk #[105, 110, 100, 101, 120])) (Value.int .i64 0 = Value.int .i64 (pI L).1 ∧ [] = (pI L).2.1 ∧ Value.int .i64 ((n + 1 : Nat) : Int) = Value.int .i64 ((pI L).2.2.1 : Int) ∧ Value.int .i64 7 = Value.int .i64 (pI L).2.2.2 ∧ True)
              (bcase (!noP (wdB (lxB s (a : Int)) (ByteArray.mk #[105, 110, 100, 101, 120]))) (Value.int .i64 0 = Value.int .i64 (pI L).1 ∧ [] = (pI L).2.1 ∧ Value.int .i64 ((n + 1 : Nat) : Int) = Value.int .i64 ((pI L).2.2.1 : Int) ∧ Value.int .i64 7 = Value.int .i64 (pI L).2.2.2 ∧ True)
                (∃ (s_3 : Nat × Nat × Int × List (Int × Int)), (s = s ∧ Int.ofNat 0 = 0 ∧ Int.ofNat 0 = 0 ∧ ((n + 1 : Nat) : Int) = (s_3.fst : Int) ∧ IntKind.i64.wrap (IntKind.i64.wrap ((a : Int) + ((lxB s (a : Int)).size : Int)) + 1) = (s_3.snd.fst : Int) ∧ Int.ofNat 0 = 0 ∧ Value.slice none 0 0 = Value.slice none 0 0 ∧ ivP (wdB (lxB s (a : Int)) (ByteArray.mk #[105, 110, 100, 101, 120])) = s_3.snd.snd.fst ∧ t.length = s_3.snd.snd.snd.length ∧ t = s_3.snd.snd.snd ∧ True) ∧
                  RpI L s_3.fst s_3.snd.fst s_3.snd.snd.fst s_3.snd.snd.snd ∧ L.length + 1 - s_3.snd.fst < L.length + 1 - a)))
          (SL (lxB s (a : Int)) ∧
            bcase (!(entL (lxB s (a : Int)).data.toList).isSome) (Value.int .i64 0 = Value.int .i64 (pI L).1 ∧ [] = (pI L).2.1 ∧ Value.int .i64 ((n + 1 : Nat) : Int) = Value.int .i64 ((pI L).2.2.1 : Int) ∧ Value.int .i64 7 = Value.int .i64 (pI L).2.2.2 ∧ True)
              (t.length = t.length ∧ bcase (capOk (t.length + 1) 16)
                (∃ (s_3 : Nat × Nat × Int × List (Int × Int)), (s = s ∧ Int.ofNat 0 = 0 ∧ Int.ofNat 0 = 0 ∧ ((n + 1 : Nat) : Int) = (s_3.fst : Int) ∧ IntKind.i64.wrap (IntKind.i64.wrap ((a : Int) + ((lxB s (a : Int)).size : Int)) + 1) = (s_3.snd.fst : Int) ∧ Int.ofNat 0 = 0 ∧ Value.slice none 0 0 = Value.slice none 0 0 ∧ k = s_3.snd.snd.fst ∧ t.length + 1 = s_3.snd.snd.snd.length ∧ t.length + 1 ≠ 0 ∧ t ++ [((entR (lxB s (a : Int)).data.toList).1, (entR (lxB s (a : Int)).data.toList).2)] = s_3.snd.snd.snd ∧ True) ∧
                  RpI L s_3.fst s_3.snd.fst s_3.snd.snd.fst s_3.snd.snd.snd ∧ L.length + 1 - s_3.snd.fst < L.length + 1 - a) False)))) := fun hlt => by
    refine round hlt (fun h10 => ?_) (fun h10 => ?_)
    · by_cases n0 : n = 0
      · obtain ⟨rfl, rfl⟩ := hn0 n0
        subst n0
        exact out (pI_no h10) rfl rfl rfl rfl
      · obtain ⟨g1, g2, g3⟩ := hn1 n0
        have hne : L.drop a ≠ [] := fun e => by
          have := hlt n0
          rw [e] at dlen
          simp at dlen
          omega
        rw [pEL_no hne h10] at g3
        exact out (pI_ent g1 g2 g3.symm) rfl rfl rfl rfl
    · obtain ⟨d1, d2⟩ := ln_drop h10
      have elx : lxB s (a : Int) = ⟨(lnH (L.drop a)).toArray⟩ := by unfold lxB; rw [hL, Int.toNat_natCast, if_pos h10]
      have elz : (lxB s (a : Int)).size = (lnH (L.drop a)).length := by rw [elx, mkz]
      have esl : SL (lxB s (a : Int)) := by rw [elx]; show (lnH (L.drop a)).length ≤ 4000; omega
      have edd : L.drop (a + ((lnH (L.drop a)).length + 1)) = lnT (L.drop a) := by rw [← d1, List.drop_drop]
      have wa : IntKind.i64.wrap (IntKind.i64.wrap ((a : Int) + ((lxB s (a : Int)).size : Int)) + 1) = ((a + ((lnH (L.drop a)).length + 1) : Nat) : Int) := by
        rw [elz, wrap_in (n := (a : Int) + ((lnH (L.drop a)).length : Int)) (by omega), wrap_in (by omega)]; omega
      have eld : (lxB s (a : Int)).data.toList = lnH (L.drop a) := by rw [elx]
      rw [wa, eld]
      refine bcase_iff.mpr ⟨fun q => ?_, fun q => ?_⟩
      · have n0 : n = 0 := by have := eq_of_beq q; omega
        obtain ⟨rfl, rfl⟩ := hn0 n0
        subst n0
        rw [List.drop_zero] at *
        have hp : (ByteArray.mk #[105, 110, 100, 101, 120]).data.toList ++ [32] = idxW := rfl
        have hw : woB (lxB s ((0 : Nat) : Int)) (ByteArray.mk #[105, 110, 100, 101, 120]) = (pre idxW (lnH L)).isSome := by unfold woB; rw [hp, eld]
        have hd : (wdB (lxB s ((0 : Nat) : Int)) (ByteArray.mk #[105, 110, 100, 101, 120])).data.toList = (pre idxW (lnH L)).getD [] := by unfold wdB; rw [hp, eld]
        have hsl : SL (wdB (lxB s ((0 : Nat) : Int)) (ByteArray.mk #[105, 110, 100, 101, 120])) := by
          unfold SL at esl ⊢
          rw [hd]
          rw [eld] at esl
          unfold pre
          split
          · rw [Option.getD_some, List.length_drop]; omega
          · exact Nat.zero_le _
        rw [hw]
        refine ⟨⟨esl, by decide⟩, hsl, ?_⟩
        cases hpre : pre idxW (lnH L) with
        | none =>
          have hi : idxL (lnH L) = none := by unfold idxL; rw [hpre]; rfl
          exact bT rfl (out (pI_idx h10 hi) rfl rfl rfl rfl)
        | some y =>
          rw [hpre, Option.getD_some] at hd
          have hi : idxL (lnH L) = numL y := by unfold idxL; rw [hpre]; rfl
          refine bF rfl ?_
          cases hk : numL y with
          | none =>
            exact bT (by unfold noP; rw [hd, hk]; rfl) (out (pI_idx h10 (by rw [hi, hk])) rfl rfl rfl rfl)
          | some kk =>
            obtain ⟨-, g2, g3⟩ := numL_get (s := wdB (lxB s ((0 : Nat) : Int)) (ByteArray.mk #[105, 110, 100, 101, 120])) (n := kk) (by rw [hd]; exact hk)
            refine bF (by rw [g3]; rfl) ⟨(1, 0 + ((lnH L).length + 1), kk, []), ⟨rfl, rfl, rfl, rfl, rfl, rfl, rfl, g2, rfl, rfl, trivial⟩, ⟨by show 0 + ((lnH L).length + 1) ≤ _; omega, fun e => absurd e (by show ¬ _ = 0; omega), fun _ => ⟨h10, by rw [hi, hk], ?_⟩, by show 1 ≤ 0 + ((lnH L).length + 1); omega, Nat.zero_le _⟩, by show L.length + 1 - (0 + ((lnH L).length + 1)) < L.length + 1 - 0; omega⟩
            rw [edd]
      · have n0 : n ≠ 0 := fun e => by subst e; revert q; decide
        obtain ⟨g1, g2, g3⟩ := hn1 n0
        refine ⟨esl, ?_⟩
        cases he : entL (lnH (L.drop a)) with
        | none =>
          rw [pEL_bad h10 he] at g3
          exact bT rfl (out (pI_ent g1 g2 g3.symm) rfl rfl rfl rfl)
        | some e =>
          rw [ent_get he]
          rw [pEL_step h10 he] at g3
          refine bF rfl ⟨rfl, bT (cap_ok (by omega)) ⟨(n + 1, a + ((lnH (L.drop a)).length + 1), k, t ++ [e]), ⟨rfl, rfl, rfl, rfl, rfl, rfl, rfl, rfl, by simp, by omega, rfl, trivial⟩, ⟨by show a + ((lnH (L.drop a)).length + 1) ≤ _; omega, fun e => absurd e (by show ¬ _ = 0; omega), fun _ => ⟨g1, g2, ?_⟩, by show n + 1 ≤ a + ((lnH (L.drop a)).length + 1); omega, by show (t ++ [e]).length ≤ n + 1; rw [List.length_append, List.length_singleton]; omega⟩, by show L.length + 1 - (a + ((lnH (L.drop a)).length + 1)) < L.length + 1 - a; omega⟩⟩
          rw [edd]
          exact g3
  refine bcase_iff.mpr ⟨fun q => ⟨hlk, body fun _ => by have := of_decide_eq_true q; omega⟩, fun q => bcase_iff.mpr ⟨fun q2 => ⟨hlk, body fun e => absurd (by have := eq_of_beq q2; omega) e⟩, fun q2 => ?_⟩⟩
  have q := of_decide_eq_false q
  have n0 : n ≠ 0 := fun e => by subst e; revert q2; decide
  obtain ⟨g1, g2, g3⟩ := hn1 n0
  have ea : a = L.length := by omega
  rw [ea, List.drop_length, pEL_nil] at g3
  have hp := pI_end g1 g2 g3.symm
  refine ⟨rfl, fun z hz => ⟨trivial, ?_⟩⟩
  rw [hz]
  refine bcase_iff.mpr ⟨fun v => ?_, fun v => ?_⟩
  · have v : ¬ Valid18 k t := by
      have : vldB k t = false := by simpa using v
      exact of_decide_eq_false this
    rw [if_neg v] at hp
    exact out hp rfl rfl rfl rfl
  · have v : Valid18 k t := by
      have : vldB k t = true := by simpa using v
      exact of_decide_eq_true this
    rw [if_pos v] at hp
    obtain ⟨o1, o2, o3, o4, o5⟩ := out hp (k' := k) (t' := t) (n' := 0) (e' := 0) rfl rfl rfl rfl
    exact ⟨o1, rfl, o2, o3, o4, trivial⟩
end Go.Proofs.YtkcelhhhbbpbpaaDoor
