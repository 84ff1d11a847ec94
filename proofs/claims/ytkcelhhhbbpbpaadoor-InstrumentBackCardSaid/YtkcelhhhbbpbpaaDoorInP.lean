/- Texts of instruments in plain words: lines, entries, and reading them. No program is in sight here. -/
import Derived.Test.YtkcelhhhbbpbpaaDoorBackP
import Derived.Test.YtkcelhhhbbpbpaaDoorMrgS
import Derived.Test.YtkcelhhhbbpbpaaDoorMrgW
namespace Go.Proofs.YtkcelhhhbbpbpaaDoor
open Go Go.Abs Go.RowKit
set_option linter.unusedVariables false
set_option linter.unusedSimpArgs false
theorem core_bytes (m : Nat) : ∀ b ∈ coreL m, 45 ≤ b.toNat := by
  unfold coreL
  rw [← digL_one, ← digL_pad 2 _ (by omega), ← digL_pad 3 _ (by omega)]
  intro b hb
  have d : ∀ n k, b ∈ digL n k → 45 ≤ b.toNat := fun n k h => by have := digL_dig n k b h; omega
  simp only [List.mem_append, List.mem_singleton] at hb
  rcases hb with (((hb | hb) | hb) | hb) | hb
  · exact d _ _ hb
  · subst hb; decide
  · exact d _ _ hb
  · subst hb; decide
  · split at hb
    · exact d _ _ (by rw [digL_one]; exact hb)
    · exact d _ _ hb
theorem text_bytes (n : Int) : ∀ b ∈ textL n, 45 ≤ b.toNat := by
  intro b hb
  unfold textL at hb
  split at hb
  · rcases List.mem_cons.mp hb with rfl | hb
    · decide
    · exact core_bytes _ _ hb
  · exact core_bytes _ _ hb
theorem text_no (n : Int) {c : UInt8} (hc : c.toNat < 45) : c ∉ textL n := fun h => by have := text_bytes n c h; omega
theorem rT_bd (D r : List UInt8) (mi : Bool) : (rT D r mi).1.natAbs ≤ 1099511627776 := by
  unfold rT
  split
  · decide
  · split
    · split
      · decide
      · split
        · decide
        · split
          · decide
          · split
            · decide
            · dsimp only
              split <;> omega
    · decide
/-- The integer with a text. -/
def numL (w : List UInt8) : Option Int := if (parL w).2 = 0 ∧ textL (parL w).1 = w then some (parL w).1 else none
theorem numL_text {n : Int} (h : n.natAbs ≤ 1099511627776) : numL (textL n) = some n := by
  have b := par_back n h
  have e : (if n < 0 then [45] else []) ++ coreL n.natAbs = textL n := by unfold textL; split <;> rfl
  rw [e] at b
  unfold numL
  rw [b, if_pos ⟨rfl, rfl⟩]
theorem numL_some {w : List UInt8} {n : Int} (h : numL w = some n) : textL n = w ∧ n.natAbs ≤ 1099511627776 := by
  unfold numL at h
  split at h
  · rename_i c
    cases h
    exact ⟨c.2, rT_bd _ _ _⟩
  · cases h
def idxW : List UInt8 := [105, 110, 100, 101, 120, 32]
def errW : List UInt8 := [101, 114, 114, 111, 114, 32]
/-- What follows a word. -/
def pre (p x : List UInt8) : Option (List UInt8) := if p.isPrefixOf x then some (x.drop p.length) else none
theorem pre_app (p y : List UInt8) : pre p (p ++ y) = some y := by
  unfold pre
  rw [if_pos (by rw [List.isPrefixOf_iff_prefix]; exact ⟨y, rfl⟩), List.drop_left]
theorem pre_some {p x y : List UInt8} (h : pre p x = some y) : x = p ++ y := by
  unfold pre at h
  split at h
  · rename_i c
    cases h
    obtain ⟨t, rfl⟩ := List.isPrefixOf_iff_prefix.mp c
    rw [List.drop_left]
  · cases h
def idxL (x : List UInt8) : Option Int := (pre idxW x).bind numL
def two2 (y : List UInt8) : Option (Int × Int) :=
  if 32 ∈ y then (numL (y.takeWhile (· != 32))).bind fun a => (numL ((y.dropWhile (· != 32)).drop 1)).bind fun b => some (a, b) else none
def entL (x : List UInt8) : Option (Int × Int) := (pre errW x).bind two2
def entT (e : Int × Int) : List UInt8 := errW ++ textL e.1 ++ 32 :: textL e.2
def Fits2 (e : Int × Int) : Prop := e.1.natAbs ≤ 1099511627776 ∧ e.2.natAbs ≤ 1099511627776
theorem while_at {c : UInt8} {a : List UInt8} (b : List UInt8) (h : c ∉ a) : (a ++ c :: b).takeWhile (· != c) = a ∧ ((a ++ c :: b).dropWhile (· != c)).drop 1 = b := by
  obtain ⟨w1, w2⟩ := while_all (p := (· != c)) (l := a) (c :: b) (fun x hx => by
    have : x ≠ c := fun e => h (by rw [← e]; exact hx)
    simpa using this) (fun d q e => by
    obtain ⟨rfl, -⟩ : c = d ∧ b = q := by simpa using e
    simp)
  rw [w1, w2]
  exact ⟨rfl, rfl⟩
theorem idxL_text {k : Int} (h : k.natAbs ≤ 1099511627776) : idxL (idxW ++ textL k) = some k := by
  unfold idxL
  rw [pre_app]
  exact numL_text h
theorem idxL_some {x : List UInt8} {k : Int} (h : idxL x = some k) : x = idxW ++ textL k ∧ k.natAbs ≤ 1099511627776 := by
  unfold idxL at h
  obtain ⟨y, h1, h2⟩ := Option.bind_eq_some_iff.mp h
  obtain ⟨e, b⟩ := numL_some h2
  rw [e]
  exact ⟨pre_some h1, b⟩
theorem entL_text {e : Int × Int} (h : Fits2 e) : entL (entT e) = some e := by
  unfold entL entT
  rw [List.append_assoc, pre_app]
  show two2 _ = _
  unfold two2
  obtain ⟨w1, w2⟩ := while_at (c := 32) (a := textL e.1) (textL e.2) (text_no _ (by decide))
  rw [if_pos (by simp), w1, w2, numL_text h.1, numL_text h.2]
  rfl
theorem entL_some {x : List UInt8} {e : Int × Int} (h : entL x = some e) : x = entT e ∧ Fits2 e := by
  unfold entL at h
  obtain ⟨y, h1, h2⟩ := Option.bind_eq_some_iff.mp h
  unfold two2 at h2
  split at h2
  · rename_i c
    obtain ⟨a, h3, h4⟩ := Option.bind_eq_some_iff.mp h2
    obtain ⟨b, h5, h6⟩ := Option.bind_eq_some_iff.mp h4
    cases h6
    obtain ⟨e1, b1⟩ := numL_some h3
    obtain ⟨e2, b2⟩ := numL_some h5
    refine ⟨?_, b1, b2⟩
    unfold entT
    rw [pre_some h1, List.append_assoc]
    congr 1
    rw [e1, e2]
    exact (split_at c).1
  · cases h2
/-- A line, and what follows it. -/
def lnH (l : List UInt8) : List UInt8 := l.takeWhile (· != 10)
def lnT (l : List UInt8) : List UInt8 := (l.dropWhile (· != 10)).drop 1
theorem ln_len {l : List UInt8} (h : 10 ∈ l) : (lnT l).length < l.length := by
  have := congrArg List.length (split_at h).1
  rw [List.length_append, List.length_cons] at this
  unfold lnT
  omega
/-- The entries from a line on: the line that fails, or the entries. -/
def pE : Nat → List UInt8 → List (Int × Int) → Nat → Option Nat × List (Int × Int)
  | 0, _, acc, _ => (none, acc)
  | f + 1, l, acc, ln => if l = [] then (none, acc) else if 10 ∈ l then (match entL (lnH l) with | some e => pE f (lnT l) (acc ++ [e]) (ln + 1) | none => (some ln, [])) else (some ln, [])
theorem pE_fuel : ∀ (f g : Nat) (l : List UInt8) (acc : List (Int × Int)) (ln : Nat), l.length ≤ f → l.length ≤ g → pE f l acc ln = pE g l acc ln
  | 0, 0, _, _, _, _, _ => rfl
  | 0, g + 1, l, acc, ln, h, _ => by
    have : l = [] := List.eq_nil_of_length_eq_zero (by omega)
    subst this; rfl
  | f + 1, 0, l, acc, ln, _, h => by
    have : l = [] := List.eq_nil_of_length_eq_zero (by omega)
    subst this; rfl
  | f + 1, g + 1, l, acc, ln, h1, h2 => by
    unfold pE
    split
    · rfl
    · split
      · rename_i c
        have := ln_len c
        split
        · exact pE_fuel f g _ _ _ (by omega) (by omega)
        · rfl
      · rfl
def pEL (l : List UInt8) (acc : List (Int × Int)) (ln : Nat) : Option Nat × List (Int × Int) := pE l.length l acc ln
theorem pEL_nil (acc : List (Int × Int)) (ln : Nat) : pEL [] acc ln = (none, acc) := rfl
theorem pEL_no {l : List UInt8} {acc : List (Int × Int)} {ln : Nat} (h0 : l ≠ []) (h : 10 ∉ l) : pEL l acc ln = (some ln, []) := by
  unfold pEL
  cases hl : l.length with
  | zero => exact absurd (List.eq_nil_of_length_eq_zero hl) h0
  | succ n => unfold pE; rw [if_neg h0, if_neg h]
theorem pEL_bad {l : List UInt8} {acc : List (Int × Int)} {ln : Nat} (h : 10 ∈ l) (he : entL (lnH l) = none) : pEL l acc ln = (some ln, []) := by
  have h0 : l ≠ [] := by rintro rfl; simp at h
  unfold pEL
  cases hl : l.length with
  | zero => exact absurd (List.eq_nil_of_length_eq_zero hl) h0
  | succ n => unfold pE; rw [if_neg h0, if_pos h, he]
theorem pE_succ (n : Nat) {l : List UInt8} {acc : List (Int × Int)} {ln : Nat} {e : Int × Int} (h0 : l ≠ []) (h : 10 ∈ l) (he : entL (lnH l) = some e) : pE (n + 1) l acc ln = pE n (lnT l) (acc ++ [e]) (ln + 1) := by
  rw [pE, if_neg h0, if_pos h, he]
theorem pEL_step {l : List UInt8} {acc : List (Int × Int)} {ln : Nat} {e : Int × Int} (h : 10 ∈ l) (he : entL (lnH l) = some e) : pEL l acc ln = pEL (lnT l) (acc ++ [e]) (ln + 1) := by
  have h0 : l ≠ [] := by rintro rfl; simp at h
  have hlt := ln_len h
  have h1 : pE l.length l acc ln = pE ((l.length - 1) + 1) l acc ln := pE_fuel _ _ _ _ _ (Nat.le_refl _) (by omega)
  unfold pEL
  rw [h1, pE_succ _ h0 h he]
  exact pE_fuel _ _ (lnT l) _ _ (by omega) (Nat.le_refl _)
/-- A text of an instrument: index, entries, the line that fails, the error. -/
def pI (l : List UInt8) : Int × List (Int × Int) × Nat × Int :=
  if 10 ∈ l then
    match idxL (lnH l) with
    | some k => (match pEL (lnT l) [] 2 with
      | (some ln, _) => (0, [], ln, 7)
      | (none, t) => if Valid18 k t then (k, t, 0, 0) else (0, [], 0, 1))
    | none => (0, [], 1, 7)
  else (0, [], 1, 7)
def entsT (t : List (Int × Int)) : List UInt8 := t.flatMap fun e => entT e ++ [10]
def insT (k : Int) (t : List (Int × Int)) : List UInt8 := idxW ++ textL k ++ 10 :: entsT t
theorem ent_no (e : Int × Int) : 10 ∉ entT e := by
  unfold entT errW
  simp only [List.mem_append, List.mem_cons, not_or]
  exact ⟨⟨by decide, text_no _ (by decide)⟩, by decide, text_no _ (by decide)⟩
theorem pEL_text : ∀ (t : List (Int × Int)) (acc : List (Int × Int)) (ln : Nat), (∀ e ∈ t, Fits2 e) → pEL (entsT t) acc ln = (none, acc ++ t)
  | [], acc, ln, _ => by rw [List.append_nil]; rfl
  | e :: t, acc, ln, h => by
    have he : entsT (e :: t) = entT e ++ 10 :: entsT t := by unfold entsT; simp
    rw [he]
    obtain ⟨w1, w2⟩ := while_at (c := 10) (a := entT e) (entsT t) (ent_no e)
    rw [pEL_step (e := e) (by simp) (by unfold lnH; rw [w1]; exact entL_text (h e (by simp)))]
    unfold lnT
    rw [w2, pEL_text t _ _ (fun x hx => h x (by simp [hx])), List.append_assoc]
    rfl
theorem pEL_back : ∀ (n : Nat) (l : List UInt8) (acc t : List (Int × Int)) (ln : Nat), l.length ≤ n → pEL l acc ln = (none, t) → ∃ t', t = acc ++ t' ∧ l = entsT t' ∧ ∀ e ∈ t', Fits2 e
  | n, l, acc, t, ln, hn, h => by
    by_cases h0 : l = []
    · subst h0
      rw [pEL_nil] at h
      exact ⟨[], by rw [List.append_nil]; exact (Prod.mk.inj h).2.symm, rfl, by simp⟩
    · by_cases h10 : 10 ∈ l
      · cases he : entL (lnH l) with
        | none => rw [pEL_bad h10 he] at h; cases (Prod.mk.inj h).1
        | some e =>
          rw [pEL_step h10 he] at h
          have hlt := ln_len h10
          match n, hn with
          | n + 1, hn =>
            obtain ⟨t', e1, e2, e3⟩ := pEL_back n _ _ _ _ (by omega) h
            obtain ⟨x1, x2⟩ := entL_some he
            refine ⟨e :: t', by rw [e1, List.append_assoc]; rfl, ?_, ?_⟩
            · have := (split_at h10).1
              rw [this]
              have hx : entsT (e :: t') = entT e ++ 10 :: entsT t' := by unfold entsT; simp
              rw [hx, ← e2, ← x1]
              rfl
            · intro x hx
              rcases List.mem_cons.mp hx with rfl | hx
              · exact x2
              · exact e3 x hx
          | 0, hn => exact absurd (List.eq_nil_of_length_eq_zero (by omega)) h0
      · rw [pEL_no h0 h10] at h; cases (Prod.mk.inj h).1
theorem valid_fits {k : Int} {t : List (Int × Int)} (h : Valid18 k t) : k.natAbs ≤ 1099511627776 ∧ ∀ e ∈ t, Fits2 e := by
  obtain ⟨h1, h2, h3, h4⟩ := h
  refine ⟨by omega, fun e he => ?_⟩
  obtain ⟨i, hi, rfl⟩ := List.getElem_of_mem he
  have := h4 i hi
  unfold OkEnt atAt valAt at this
  rw [List.getD_eq_getElem?_getD, List.getElem?_eq_getElem hi, Option.getD_some] at this
  unfold Fits2
  omega
theorem idx_no (k : Int) : 10 ∉ idxW ++ textL k := by
  simp only [List.mem_append, not_or]
  exact ⟨by decide, text_no _ (by decide)⟩
/-- An instrument's own text is read back. -/
theorem pI_text {k : Int} {t : List (Int × Int)} (h : Valid18 k t) : pI (insT k t) = (k, t, 0, 0) := by
  obtain ⟨f1, f2⟩ := valid_fits h
  obtain ⟨w1, w2⟩ := while_at (c := 10) (a := idxW ++ textL k) (entsT t) (idx_no k)
  unfold pI insT
  rw [if_pos (by simp)]
  unfold lnH lnT
  rw [w1, w2, idxL_text f1, pEL_text t [] 2 f2]
  dsimp only
  rw [List.nil_append, if_pos h]
/-- What is read has this text. -/
theorem pI_back {l : List UInt8} {k : Int} {t : List (Int × Int)} {n : Nat} (h : pI l = (k, t, n, 0)) : l = insT k t ∧ Valid18 k t := by
  unfold pI at h
  split at h
  · rename_i h10
    split at h
    · rename_i k' hk
      split at h
      · rename_i heq; have := (Prod.mk.inj (Prod.mk.inj (Prod.mk.inj h).2).2).2; cases this
      · rename_i t' heq
        split at h
        · rename_i hv
          cases h
          obtain ⟨t', e1, e2, e3⟩ := pEL_back _ _ _ _ _ (Nat.le_refl _) heq
          obtain ⟨x1, x2⟩ := idxL_some hk
          rw [List.nil_append] at e1
          subst e1
          refine ⟨?_, hv⟩
          have := (split_at h10).1
          rw [this]
          unfold insT
          rw [← e2, ← x1]
          rfl
        · have := (Prod.mk.inj (Prod.mk.inj (Prod.mk.inj h).2).2).2; cases this
    · have := (Prod.mk.inj (Prod.mk.inj (Prod.mk.inj h).2).2).2; cases this
  · have := (Prod.mk.inj (Prod.mk.inj (Prod.mk.inj h).2).2).2; cases this
end Go.Proofs.YtkcelhhhbbpbpaaDoor
