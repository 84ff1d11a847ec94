/- What a text of a point stands for, in plain words: the program's way and the reference's agree; a point's own text is read back. -/
import Derived.Test.YtbpeakgiajcfeaaDoorBackP
namespace Go.Proofs.YtbpeakgiajcfeaaDoor
open Go Go.Abs Go.RowKit
set_option linter.unusedVariables false
set_option linter.unusedSimpArgs false
/-- The number that the program reads behind a letter is taken away. -/
def tailN (b : List UInt8) (sg : Int) : Int × Bool :=
  if (parL b).2 = 5 ∧ neg b = false then (sg * 1099511627777, true) else (sg * (parL b).1, decide ((parL b).2 = 0) && !neg b)
def numN (l : List UInt8) (p m : UInt8) : Int × Bool :=
  if Lib.hasSuffix l [p] = true then tailN (Lib.trimSuffix l [p]) 1 else if Lib.hasSuffix l [m] = true then tailN (Lib.trimSuffix l [m]) (-1) else (0, false)
/-- The reference's number, and its error. -/
def prsN (l : List UInt8) (p m : UInt8) : Int × Int :=
  if l.length < 2 ∨ (l.getLast? ≠ some p ∧ l.getLast? ≠ some m) ∨ l.head? = some 45 then (0, 7)
  else if (parL l.dropLast).2 = 5 then (1099511627776, 0)
  else (if l.getLast? = some m then -(parL l.dropLast).1 else (parL l.dropLast).1, (parL l.dropLast).2)
def vPt (a b : Int) : Prop := -5400000 ≤ a ∧ a ≤ 5400000 ∧ -10800000 ≤ b ∧ b < 10800000
instance (a b : Int) : Decidable (vPt a b) := by unfold vPt; infer_instance
/-- What a text stands for: latitude, longitude, error. -/
def ptL (l : List UInt8) : Int × Int × Int :=
  if 32 ∉ l then (0, 0, 7)
  else if (numN (l.takeWhile (· != 32)) 78 83).2 = false ∨ (numN ((l.dropWhile (· != 32)).drop 1) 69 87).2 = false then (0, 0, 7)
  else if vPt (numN (l.takeWhile (· != 32)) 78 83).1 (numN ((l.dropWhile (· != 32)).drop 1) 69 87).1 then ((numN (l.takeWhile (· != 32)) 78 83).1, (numN ((l.dropWhile (· != 32)).drop 1) 69 87).1, 0)
  else (0, 0, 2)
def ptR (l : List UInt8) : Int × Int × Int :=
  if 32 ∉ l then (0, 0, 7)
  else if (prsN (l.takeWhile (· != 32)) 78 83).2 ≠ 0 ∨ (prsN ((l.dropWhile (· != 32)).drop 1) 69 87).2 ≠ 0 then (0, 0, 7)
  else if vPt (prsN (l.takeWhile (· != 32)) 78 83).1 (prsN ((l.dropWhile (· != 32)).drop 1) 69 87).1 then ((prsN (l.takeWhile (· != 32)) 78 83).1, (prsN ((l.dropWhile (· != 32)).drop 1) 69 87).1, 0)
  else (0, 0, 2)
theorem suf_iff (l : List UInt8) (c : UInt8) : Lib.hasSuffix l [c] = true ↔ l.getLast? = some c := by
  unfold Lib.hasSuffix
  rw [List.isSuffixOf_iff_suffix]
  constructor
  · rintro ⟨t, rfl⟩
    simp
  · intro h
    have hn : l ≠ [] := by rintro rfl; simp at h
    refine ⟨l.dropLast, ?_⟩
    have e := List.dropLast_concat_getLast hn
    rw [List.getLast?_eq_some_getLast hn] at h
    rw [← Option.some.inj h]
    exact e
theorem trim_last (l : List UInt8) (c : UInt8) (h : l.getLast? = some c) : Lib.trimSuffix l [c] = l.dropLast := by
  unfold Lib.trimSuffix
  rw [if_pos ((suf_iff l c).mpr h), List.dropLast_eq_take]
  rfl
theorem neg_head (l : List UInt8) : neg l = true ↔ l.head? = some 45 := by
  unfold neg Lib.hasPrefix
  cases l with
  | nil => simp
  | cons b l =>
    simp only [List.isPrefixOf, Bool.and_true, List.head?_cons, Option.some.injEq]
    rw [beq_iff_eq]
    exact eq_comm
theorem head_drop {l : List UInt8} (h : 2 ≤ l.length) : l.dropLast.head? = l.head? := by
  match l, h with
  | a :: b :: r, _ => simp
theorem parL_nil : parL [] = (0, 7) := by decide
theorem rT_err (D r : List UInt8) (mi : Bool) : (rT D r mi).2 = 0 ∨ ((rT D r mi).1 = 0 ∧ ((rT D r mi).2 = 5 ∨ (rT D r mi).2 = 7)) := by
  unfold rT
  split
  · simp
  · split
    · split
      · simp
      · split
        · simp
        · split
          · simp
          · split
            · simp
            · simp
    · simp
theorem parL_err (l : List UInt8) : (parL l).2 = 0 ∨ ((parL l).1 = 0 ∧ ((parL l).2 = 5 ∨ (parL l).2 = 7)) := rT_err _ _ _
/-- The two ways, at one part. -/
theorem num_prs (l : List UInt8) (p m : UInt8) (hpm : p ≠ m) : ((numN l p m).2 = true ↔ (prsN l p m).2 = 0) ∧
    ((numN l p m).2 = true → (numN l p m).1 = (prsN l p m).1 ∨ (1099511627776 ≤ (numN l p m).1.natAbs ∧ 1099511627776 ≤ (prsN l p m).1.natAbs)) := by
  have key : ∀ (sg : Int) (hs : sg = 1 ∨ sg = -1) (hsg : (if l.getLast? = some m then -(parL l.dropLast).1 else (parL l.dropLast).1) = sg * (parL l.dropLast).1) (hl : l.getLast? = some p ∨ l.getLast? = some m),
      ((tailN l.dropLast sg).2 = true ↔ (prsN l p m).2 = 0) ∧ ((tailN l.dropLast sg).2 = true → (tailN l.dropLast sg).1 = (prsN l p m).1 ∨ (1099511627776 ≤ (tailN l.dropLast sg).1.natAbs ∧ 1099511627776 ≤ (prsN l p m).1.natAbs)) := fun sg hs hsg hl => by
    unfold tailN prsN
    rw [hsg]
    by_cases h2 : l.length < 2
    · have e : l.dropLast = [] := by
        apply List.eq_nil_of_length_eq_zero
        rw [List.length_dropLast]; omega
      rw [e, parL_nil, if_pos (Or.inl h2)]
      simp
    · have hh := head_drop (l := l) (by omega)
      by_cases hn : l.head? = some 45
      · have n1 : neg l.dropLast = true := (neg_head _).mpr (by rw [hh]; exact hn)
        rw [n1, if_neg (by simp), if_pos (Or.inr (Or.inr hn))]
        simp
      · have n1 : neg l.dropLast = false := by
          rw [← Bool.not_eq_true, neg_head, hh]; exact hn
        have c1 : ¬ (l.length < 2 ∨ (l.getLast? ≠ some p ∧ l.getLast? ≠ some m) ∨ l.head? = some 45) := by
          rintro (h | ⟨h, h'⟩ | h)
          · exact h2 h
          · rcases hl with hl | hl
            · exact h hl
            · exact h' hl
          · exact hn h
        rw [n1, if_neg c1]
        by_cases e5 : (parL l.dropLast).2 = 5
        · rw [if_pos ⟨e5, rfl⟩, if_pos e5]
          refine ⟨by simp, fun _ => Or.inr ?_⟩
          dsimp only
          rcases hs with rfl | rfl <;> decide
        · rw [if_neg (by rintro ⟨h, -⟩; exact e5 h), if_neg e5]
          refine ⟨by simp, fun _ => Or.inl rfl⟩
  unfold numN
  by_cases h1 : l.getLast? = some p
  · rw [if_pos ((suf_iff l p).mpr h1), trim_last l p h1]
    exact key 1 (Or.inl rfl) (by rw [if_neg (by rw [h1]; intro h; exact hpm (Option.some.inj h)), Int.one_mul]) (Or.inl h1)
  · rw [if_neg (by rw [suf_iff]; exact h1)]
    by_cases h2 : l.getLast? = some m
    · rw [if_pos ((suf_iff l m).mpr h2), trim_last l m h2]
      exact key (-1) (Or.inr rfl) (by rw [if_pos h2, Int.neg_one_mul]) (Or.inr h2)
    · rw [if_neg (by rw [suf_iff]; exact h2)]
      have : prsN l p m = (0, 7) := by
        unfold prsN
        rw [if_pos (Or.inr (Or.inl ⟨h1, h2⟩))]
      rw [this]
      simp
theorem pt_same (l : List UInt8) : ptL l = ptR l := by
  unfold ptL ptR
  by_cases h : 32 ∉ l
  · rw [if_pos h, if_pos h]
  · rw [if_neg h, if_neg h]
    obtain ⟨a1, a2⟩ := num_prs (l.takeWhile (· != 32)) 78 83 (by decide)
    obtain ⟨b1, b2⟩ := num_prs ((l.dropWhile (· != 32)).drop 1) 69 87 (by decide)
    generalize numN (l.takeWhile (· != 32)) 78 83 = x at *
    generalize prsN (l.takeWhile (· != 32)) 78 83 = x' at *
    generalize numN ((l.dropWhile (· != 32)).drop 1) 69 87 = y at *
    generalize prsN ((l.dropWhile (· != 32)).drop 1) 69 87 = y' at *
    obtain ⟨x1, x2⟩ := x
    obtain ⟨y1, y2⟩ := y
    dsimp only at *
    by_cases c : x2 = false ∨ y2 = false
    · rw [if_pos c, if_pos (by
        rcases c with c | c
        · left; intro e; rw [a1.mpr e] at c; cases c
        · right; intro e; rw [b1.mpr e] at c; cases c)]
    · have cx : x2 = true := by cases x2 <;> simp_all
      have cy : y2 = true := by cases y2 <;> simp_all
      rw [if_neg c, if_neg (show ¬ (x'.2 ≠ 0 ∨ y'.2 ≠ 0) by rintro (h | h); exact h (a1.mp cx); exact h (b1.mp cy))]
      have ha := a2 cx
      have hb := b2 cy
      rcases ha with rfl | ⟨ha, ha'⟩
      · rcases hb with rfl | ⟨hb, hb'⟩
        · rfl
        · rw [if_neg (show ¬ vPt x'.1 y1 by unfold vPt; omega), if_neg (show ¬ vPt x'.1 y'.1 by unfold vPt; omega)]
      · rw [if_neg (show ¬ vPt x1 y1 by unfold vPt; omega), if_neg (show ¬ vPt x'.1 y'.1 by unfold vPt; omega)]
/-! A point's own text. -/
def sideL (n : Int) (p m : UInt8) : List UInt8 := coreL n.natAbs ++ [if n < 0 then m else p]
def pointL (a b : Int) : List UInt8 := sideL a 78 83 ++ 32 :: sideL b 69 87
theorem core_bytes (m : Nat) : ∀ b ∈ coreL m, 45 ≤ b.toNat := by
  unfold coreL
  rw [← digL_one, ← digL_pad 2 _ (by omega), ← digL_pad 3 _ (by omega)]
  intro b hb
  have d : ∀ n k, b ∈ digL n k → 45 ≤ b.toNat := fun n k h => by have := digL_dig n k b h; omega
  simp only [List.mem_append, List.mem_singleton] at hb
  rcases hb with (((hb | hb) | hb) | hb) | hb
  · exact d _ _ hb
  · subst hb; decide
  · exact d _ _ hb
  · subst hb; decide
  · split at hb
    · exact d _ _ (by rw [digL_one]; exact hb)
    · exact d _ _ hb
theorem neg_core (m : Nat) : neg (coreL m) = false := by
  rw [← Bool.not_eq_true, neg_head]
  unfold coreL
  rw [← digL_one]
  obtain ⟨c, r, e⟩ := digL_some (m / 60000)
  have := digL_dig (m / 60000) 1 c (by rw [e]; simp)
  rw [e]
  simp only [List.cons_append, List.head?_cons, Option.some.injEq]
  rintro rfl
  revert this; decide
theorem side_back (n : Int) (p m : UInt8) (hpm : p ≠ m) (h : n.natAbs ≤ 1099511627776) : numN (sideL n p m) p m = (n, true) := by
  have hb := par_back (n.natAbs : Int) (by omega)
  rw [if_neg (by omega), List.nil_append, Int.natAbs_natCast] at hb
  have tl : ∀ sg, tailN (coreL n.natAbs) sg = (sg * (n.natAbs : Int), true) := fun sg => by
    unfold tailN
    rw [hb, neg_core, if_neg (by simp)]
    simp
  have gl : (sideL n p m).getLast? = some (if n < 0 then m else p) := by unfold sideL; simp
  have dl : (sideL n p m).dropLast = coreL n.natAbs := by unfold sideL; simp
  unfold numN
  by_cases q : n < 0
  · rw [if_pos q] at gl
    rw [if_neg (by rw [suf_iff, gl]; intro h; exact hpm (Option.some.inj h).symm), if_pos ((suf_iff _ _).mpr gl), trim_last _ _ gl, dl, tl]
    congr 1
    omega
  · rw [if_neg q] at gl
    rw [if_pos ((suf_iff _ _).mpr gl), trim_last _ _ gl, dl, tl]
    congr 1
    omega
theorem side_sp (n : Int) (p m : UInt8) (hp : p ≠ 32) (hm : m ≠ 32) : 32 ∉ sideL n p m := by
  unfold sideL
  intro h
  rcases List.mem_append.mp h with h | h
  · have := core_bytes _ _ h
    revert this; decide
  · split at h
    · exact hm (List.mem_singleton.mp h).symm
    · exact hp (List.mem_singleton.mp h).symm
theorem point_back (a b : Int) (h : vPt a b) : ptL (pointL a b) = (a, b, 0) := by
  have ha := side_sp a 78 83 (by decide) (by decide)
  obtain ⟨w1, w2⟩ := while_all (p := (· != 32)) (l := sideL a 78 83) (32 :: sideL b 69 87) (fun x hx => by
    have : x ≠ 32 := fun e => ha (by rw [← e]; exact hx)
    simpa using this) (fun c q e => by
    obtain ⟨rfl, -⟩ : 32 = c ∧ _ = q := by simpa using e
    decide)
  unfold ptL
  have hm : ¬ 32 ∉ pointL a b := by unfold pointL; simp
  rw [if_neg hm]
  have e1 : (pointL a b).takeWhile (· != 32) = sideL a 78 83 := w1
  have e2 : ((pointL a b).dropWhile (· != 32)).drop 1 = sideL b 69 87 := by
    have : (pointL a b).dropWhile (· != 32) = 32 :: sideL b 69 87 := w2
    rw [this]; rfl
  have h' := h
  unfold vPt at h'
  rw [e1, e2, side_back a 78 83 (by decide) (by omega), side_back b 69 87 (by decide) (by omega)]
  dsimp only
  rw [if_neg (by rintro (h | h) <;> cases h), if_pos h]
theorem point_inj {a b c d : Int} (h : vPt a b) (k : vPt c d) (e : pointL a b = pointL c d) : a = c ∧ b = d := by
  have h1 := point_back a b h
  rw [e, point_back c d k] at h1
  exact ⟨(congrArg (fun x => x.1) h1).symm, (congrArg (fun x => x.2.1) h1).symm⟩
end Go.Proofs.YtbpeakgiajcfeaaDoor
