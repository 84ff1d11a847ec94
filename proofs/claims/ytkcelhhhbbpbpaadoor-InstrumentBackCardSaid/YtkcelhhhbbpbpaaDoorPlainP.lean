/- What a text of an angle stands for, in plain words: the program's way and the reference's agree; a number's own text is read back. -/
import Derived.Test.YtkcelhhhbbpbpaaDoorCuts
import Derived.Test.YtkcelhhhbbpbpaaDoorDig
namespace Go.Proofs.YtkcelhhhbbpbpaaDoor
open Go Go.Abs Go.RowKit
set_option linter.unusedVariables false
set_option linter.unusedSimpArgs false
def dv (l : List UInt8) : Nat := if l.all dig = true then min (decN l) 1125899906842624 else 0
def okD (l : List UInt8) : Bool := l.all dig && !l.isEmpty
def pT (deg mins part : List UInt8) (ok po mi : Bool) : Int × Int :=
  if po = true ∧ (okD part = false ∨ 3 < part.length) then (0, 7)
  else if ok = false ∨ okD deg = false ∨ okD mins = false ∨ (1 < deg.length ∧ deg.head? = some 48) ∨ mins.length ≠ 2 ∨ 60 ≤ dv mins then (0, 7)
  else if 1099511627776 < dv deg then (0, 5)
  else if 1099511627776 < dv deg * 60000 + dv mins * 1000 + (if po = true then dv part * 10 ^ (3 - part.length) else 0) then (0, 5)
  else (if mi = true then -((dv deg * 60000 + dv mins * 1000 + (if po = true then dv part * 10 ^ (3 - part.length) else 0) : Nat) : Int) else ((dv deg * 60000 + dv mins * 1000 + (if po = true then dv part * 10 ^ (3 - part.length) else 0) : Nat) : Int), 0)
def rT (D r : List UInt8) (mi : Bool) : Int × Int :=
  if D = [] ∨ (1 < D.length ∧ D.head? = some 48) then (0, 7) else
  match r with
  | m :: x :: y :: q =>
    if m ≠ 45 ∨ dig x = false ∨ dig y = false ∨ 53 < x.toNat then (0, 7)
    else if q ≠ [] ∧ (q.head? ≠ some 46 ∨ q.length = 1 ∨ 4 < q.length ∨ (q.drop 1).all dig = false) then (0, 7)
    else if 18325193 < decN D then (0, 5)
    else if 1099511627776 < decN D * 60000 + (10 * (x.toNat - 48) + (y.toNat - 48)) * 1000 + decN (q.drop 1) * 10 ^ (3 - (q.length - 1)) then (0, 5)
    else (if mi = true then -((decN D * 60000 + (10 * (x.toNat - 48) + (y.toNat - 48)) * 1000 + decN (q.drop 1) * 10 ^ (3 - (q.length - 1)) : Nat) : Int) else ((decN D * 60000 + (10 * (x.toNat - 48) + (y.toNat - 48)) * 1000 + decN (q.drop 1) * 10 ^ (3 - (q.length - 1)) : Nat) : Int), 0)
  | _ => (0, 7)
def neg (l : List UInt8) : Bool := Lib.hasPrefix l [45]
def body (l : List UInt8) : List UInt8 := Lib.trimPrefix l [45]
/-- What a text stands for, and the number of an error. -/
def parL (l : List UInt8) : Int × Int := rT ((body l).takeWhile dig) ((body l).dropWhile dig) (neg l)
theorem rT_no {D r : List UInt8} {mi : Bool} (h : ∀ m q, r = m :: q → m ≠ 45) : rT D r mi = (0, 7) := by
  unfold rT
  split
  · rfl
  · split
    · rename_i m x y q
      rw [if_pos (Or.inl (h m _ rfl))]
    · rfl
theorem all_iff {l : List UInt8} : l.all dig = true ↔ ∀ b ∈ l, 48 ≤ b.toNat ∧ b.toNat ≤ 57 := by
  rw [List.all_eq_true]
  exact ⟨fun h b hb => dig_iff.mp (h b hb), fun h b hb => dig_iff.mpr (h b hb)⟩
theorem while_all {p : UInt8 → Bool} : ∀ {l : List UInt8} (r : List UInt8), (∀ b ∈ l, p b = true) → (∀ c q, r = c :: q → p c = false) → (l ++ r).takeWhile p = l ∧ (l ++ r).dropWhile p = r
  | [], r, _, h => by
    cases r with
    | nil => exact ⟨rfl, rfl⟩
    | cons c q => simp [List.takeWhile_cons, List.dropWhile_cons, h c q rfl]
  | b :: l, r, h, h2 => by
    have hb := h b (by simp)
    obtain ⟨e1, e2⟩ := while_all (l := l) r (fun x hx => h x (by simp [hx])) h2
    simp [List.takeWhile_cons, List.dropWhile_cons, hb, e1, e2]
theorem drop_head {p : UInt8 → Bool} : ∀ {l : List UInt8} {m : UInt8} {q : List UInt8}, l.dropWhile p = m :: q → p m = false ∧ m ∈ l
  | [], m, q, h => by simp at h
  | b :: l, m, q, h => by
    by_cases hb : p b = true
    · rw [List.dropWhile_cons, if_pos hb] at h
      obtain ⟨a, c⟩ := drop_head h
      exact ⟨a, by simp [c]⟩
    · rw [List.dropWhile_cons, if_neg hb] at h
      obtain ⟨rfl, rfl⟩ : b = m ∧ l = q := by simpa using h
      exact ⟨by simpa using hb, by simp⟩
theorem ne_of_nat {a b : UInt8} (h : a.toNat ≠ b.toNat) : a ≠ b := fun e => h (by rw [e])
/-- With no minus in it. -/
theorem drop_mid : ∀ {deg : List UInt8} (rest : List UInt8), deg.all dig = false → 45 ∉ deg → ∀ m q, (deg ++ rest).dropWhile dig = m :: q → m ≠ 45
  | [], rest, h, _, m, q, _ => by simp at h
  | b :: l, rest, h, n, m, q, e => by
    rw [List.cons_append, List.dropWhile_cons] at e
    by_cases hb : dig b = true
    · rw [if_pos hb] at e
      have h' : l.all dig = false := by simpa [hb] using h
      exact drop_mid rest h' (fun c => n (by simp [c])) m q e
    · rw [if_neg hb] at e
      obtain ⟨rfl, -⟩ : b = m ∧ l ++ rest = q := by simpa using e
      exact fun c => n (by simp [c])
theorem split_at {c : UInt8} : ∀ {l : List UInt8}, c ∈ l → l = l.takeWhile (· != c) ++ c :: (l.dropWhile (· != c)).drop 1 ∧ c ∉ l.takeWhile (· != c)
  | [], h => by simp at h
  | b :: l, h => by
    by_cases e : b = c
    · subst e; simp [List.takeWhile_cons, List.dropWhile_cons]
    · have hb : (b != c) = true := by simpa using e
      have h' : c ∈ l := by
        rcases List.mem_cons.mp h with h | h
        · exact absurd h.symm e
        · exact h
      obtain ⟨a, d⟩ := split_at h'
      simp only [List.takeWhile_cons, List.dropWhile_cons, hb, if_true]
      refine ⟨by rw [List.cons_append, ← a], fun m => ?_⟩
      rcases List.mem_cons.mp m with m | m
      · exact e m.symm
      · exact d m
theorem two_dv {x y : UInt8} (hx : dig x = true) (hy : dig y = true) : dv [x, y] = 10 * (x.toNat - 48) + (y.toNat - 48) := by
  have h1 := dig_iff.mp hx
  have h2 := dig_iff.mp hy
  unfold dv
  rw [if_pos (by simp [hx, hy])]
  show min (10 * (10 * 0 + (x.toNat - 48)) + (y.toNat - 48)) _ = _
  omega
def tailB (c d m t : Nat) (mi : Bool) (B : Nat) : Int × Int :=
  if B < c then (0, 5) else if 1099511627776 < d * 60000 + m * 1000 + t then (0, 5) else (if mi = true then -((d * 60000 + m * 1000 + t : Nat) : Int) else ((d * 60000 + m * 1000 + t : Nat) : Int), 0)
theorem tail_eq (d m t : Nat) (mi : Bool) : tailB (min d 1125899906842624) (min d 1125899906842624) m t mi 1099511627776 = tailB d d m t mi 18325193 := by
  unfold tailB
  by_cases q : 18325193 < d
  · rw [if_pos q]
    by_cases q2 : 1099511627776 < min d 1125899906842624
    · rw [if_pos q2]
    · rw [if_neg q2, if_pos (by omega)]
  · rw [if_neg q, if_neg (by omega), show min d 1125899906842624 = d by omega]
theorem pT_no {deg mins part : List UInt8} {ok po mi : Bool} (h : (po = true ∧ (okD part = false ∨ 3 < part.length)) ∨ (ok = false ∨ okD deg = false ∨ okD mins = false ∨ (1 < deg.length ∧ deg.head? = some 48) ∨ mins.length ≠ 2 ∨ 60 ≤ dv mins)) :
    pT deg mins part ok po mi = (0, 7) := by
  unfold pT
  by_cases c : po = true ∧ (okD part = false ∨ 3 < part.length)
  · rw [if_pos c]
  · rw [if_neg c, if_pos (h.resolve_left c)]
theorem pT_yes {deg mins part : List UInt8} {ok po mi : Bool} (h1 : ¬ (po = true ∧ (okD part = false ∨ 3 < part.length))) (h2 : ¬ (ok = false ∨ okD deg = false ∨ okD mins = false ∨ (1 < deg.length ∧ deg.head? = some 48) ∨ mins.length ≠ 2 ∨ 60 ≤ dv mins)) :
    pT deg mins part ok po mi = tailB (dv deg) (dv deg) (dv mins) (if po = true then dv part * 10 ^ (3 - part.length) else 0) mi 1099511627776 := by
  unfold pT
  rw [if_neg h1, if_neg h2]
  rfl
theorem rT_bad {D r : List UInt8} {mi : Bool} (h : (D = [] ∨ (1 < D.length ∧ D.head? = some 48)) ∨ ∀ m x y q, r = m :: x :: y :: q → (m ≠ 45 ∨ dig x = false ∨ dig y = false ∨ 53 < x.toNat) ∨ (q ≠ [] ∧ (q.head? ≠ some 46 ∨ q.length = 1 ∨ 4 < q.length ∨ (q.drop 1).all dig = false))) :
    rT D r mi = (0, 7) := by
  unfold rT
  by_cases c : D = [] ∨ (1 < D.length ∧ D.head? = some 48)
  · rw [if_pos c]
  · rw [if_neg c]
    split
    · rename_i m x y q
      by_cases c2 : m ≠ 45 ∨ dig x = false ∨ dig y = false ∨ 53 < x.toNat
      · rw [if_pos c2]
      · rw [if_neg c2, if_pos ((h.resolve_left c m x y q rfl).resolve_left c2)]
    · rfl
theorem rT_good {D q : List UInt8} {m x y : UInt8} {mi : Bool} (h1 : ¬ (D = [] ∨ (1 < D.length ∧ D.head? = some 48))) (h2 : ¬ (m ≠ 45 ∨ dig x = false ∨ dig y = false ∨ 53 < x.toNat))
    (h3 : ¬ (q ≠ [] ∧ (q.head? ≠ some 46 ∨ q.length = 1 ∨ 4 < q.length ∨ (q.drop 1).all dig = false))) :
    rT D (m :: x :: y :: q) mi = tailB (decN D) (decN D) (10 * (x.toNat - 48) + (y.toNat - 48)) (decN (q.drop 1) * 10 ^ (3 - (q.length - 1))) mi 18325193 := by
  unfold rT
  rw [if_neg h1]
  dsimp only
  rw [if_neg h2, if_neg h3]
  rfl
/-- The last step: degrees that are digits, minutes of two digits. -/
theorem tail_same (deg part : List UInt8) (x y : UInt8) (po mi : Bool) (hd : deg.all dig = true) (hp : po = false → part = []) :
    pT deg [x, y] part true po mi = rT deg (45 :: x :: y :: (if po = true then 46 :: part else [])) mi := by
  have xyq : ∀ {q : List UInt8} {m x' y' : UInt8} {q' : List UInt8}, 45 :: x :: y :: q = m :: x' :: y' :: q' → m = 45 ∧ x' = x ∧ y' = y ∧ q' = q := fun e => by
    simp only [List.cons.injEq] at e
    exact ⟨e.1.symm, e.2.1.symm, e.2.2.1.symm, e.2.2.2.symm⟩
  by_cases c1 : deg = [] ∨ (1 < deg.length ∧ deg.head? = some 48)
  · rw [rT_bad (Or.inl c1), pT_no]
    refine Or.inr ?_
    rcases c1 with c1 | c1
    · exact Or.inr (Or.inl (by rw [c1]; rfl))
    · exact Or.inr (Or.inr (Or.inr (Or.inl c1)))
  · by_cases c2 : dig x = false ∨ dig y = false ∨ 53 < x.toNat
    · rw [rT_bad (Or.inr fun m x' y' q' e => by obtain ⟨-, rfl, rfl, -⟩ := xyq e; exact Or.inl (Or.inr c2)), pT_no]
      refine Or.inr ?_
      by_cases hx : dig x = true
      · by_cases hy : dig y = true
        · refine Or.inr (Or.inr (Or.inr (Or.inr (Or.inr ?_))))
          rw [two_dv hx hy]
          rw [hx, hy] at c2
          have : 53 < x.toNat := by simpa using c2
          omega
        · exact Or.inr (Or.inr (Or.inl (by unfold okD; simp [hx, hy])))
      · exact Or.inr (Or.inr (Or.inl (by unfold okD; simp [hx])))
    · have hx : dig x = true := by
        by_cases h : dig x = true
        · exact h
        · exact absurd (Or.inl (by simpa using h)) c2
      have hy : dig y = true := by
        by_cases h : dig y = true
        · exact h
        · exact absurd (Or.inr (Or.inl (by simpa using h))) c2
      have x5 : x.toNat ≤ 53 := by
        have := c2; omega
      have h1 := dig_iff.mp hx
      have h2 := dig_iff.mp hy
      have okm : okD [x, y] = true := by unfold okD; simp [hx, hy]
      have okd : okD deg = true := by
        unfold okD; rw [hd]
        cases deg with
        | nil => exact absurd (Or.inl rfl) c1
        | cons a l => rfl
      have n2 : ¬ (true = false ∨ okD deg = false ∨ okD [x, y] = false ∨ (1 < deg.length ∧ deg.head? = some 48) ∨ ([x, y] : List UInt8).length ≠ 2 ∨ 60 ≤ dv [x, y]) := by
        rw [two_dv hx hy, okm, okd]
        rintro (h | h | h | h | h | h)
        · cases h
        · cases h
        · cases h
        · exact c1 (Or.inr h)
        · exact h rfl
        · omega
      have n3 : ¬ ((45 : UInt8) ≠ 45 ∨ dig x = false ∨ dig y = false ∨ 53 < x.toNat) := by
        rintro (h | h)
        · exact h rfl
        · exact c2 h
      have pl : ∀ l : List UInt8, l.all dig = true → l.length ≤ 3 → dv l = decN l := fun l h hl => by
        have b := decN_lt l (all_iff.mp h)
        unfold dv
        rw [if_pos h]
        have : l.length = 0 ∨ l.length = 1 ∨ l.length = 2 ∨ l.length = 3 := by omega
        rcases this with e | e | e | e <;> rw [e] at b <;> omega
      have dd : dv deg = min (decN deg) 1125899906842624 := by unfold dv; rw [if_pos hd]
      cases po
      · have := hp rfl
        subst this
        rw [pT_yes (by rintro ⟨h, -⟩; cases h) n2, if_neg (by decide), if_neg (by decide), rT_good c1 n3 (by rintro ⟨h, -⟩; exact h rfl), two_dv hx hy, dd, tail_eq]
        rfl
      · rw [if_pos rfl]
        by_cases c3 : okD part = false ∨ 3 < part.length
        · rw [pT_no (Or.inl ⟨rfl, c3⟩), rT_bad (Or.inr fun m x' y' q' e => by
            obtain ⟨-, -, -, rfl⟩ := xyq e
            refine Or.inr ⟨by simp, ?_⟩
            rcases c3 with c3 | c3
            · unfold okD at c3
              by_cases e : part.all dig = true
              · rw [e] at c3
                right; left
                cases part with
                | nil => rfl
                | cons a l => simp at c3
              · exact Or.inr (Or.inr (Or.inr (by simpa using e)))
            · exact Or.inr (Or.inr (Or.inl (by simp; omega))))]
        · have okp : okD part = true := by
            by_cases h : okD part = true
            · exact h
            · exact absurd (Or.inl (by simpa using h)) c3
          have l3 : part.length ≤ 3 := by
            have := c3; omega
          have ha : part.all dig = true := by unfold okD at okp; rw [Bool.and_eq_true] at okp; exact okp.1
          have hne : part ≠ [] := by
            rintro rfl
            revert okp; decide
          have ln : part.length ≠ 0 := fun h => hne (List.eq_nil_of_length_eq_zero h)
          rw [pT_yes (by rintro ⟨-, h⟩; exact c3 h) n2, if_pos rfl, rT_good c1 n3 (by
            rintro ⟨-, h | h | h | h⟩
            · exact h rfl
            · exact ln (by simpa using h)
            · simp at h; omega
            · rw [show (46 :: part).drop 1 = part from rfl, ha] at h; cases h), two_dv hx hy, dd, tail_eq, pl part ha l3]
          rfl
/-- The program's way, and the reference's. -/
theorem par_same (b : List UInt8) (mi : Bool) :
    pT (Lib.cut b [45]).1 (Lib.cut (Lib.cut b [45]).2.1 [46]).1 (Lib.cut (Lib.cut b [45]).2.1 [46]).2.1 (Lib.cut b [45]).2.2 (Lib.cut (Lib.cut b [45]).2.1 [46]).2.2 mi
      = rT (b.takeWhile dig) (b.dropWhile dig) mi := by
  rw [cut_first 45 b]
  dsimp only
  by_cases m : 45 ∈ b
  · obtain ⟨e, n⟩ := split_at m
    generalize b.takeWhile (· != 45) = deg at e n ⊢
    generalize (b.dropWhile (· != 45)).drop 1 = rest at e ⊢
    rw [decide_eq_true m]
    subst e
    by_cases hd : deg.all dig = true
    · obtain ⟨w1, w2⟩ := while_all (p := dig) (l := deg) (45 :: rest) (fun b hb => List.all_eq_true.mp hd b hb) (fun c q e => by
        obtain ⟨rfl, -⟩ : 45 = c ∧ rest = q := by simpa using e
        decide)
      rw [w1, w2, cut_first 46 rest]
      dsimp only
      have short : ∀ mins part po, mins.length ≠ 2 → pT deg mins part true po mi = (0, 7) := fun mins part po h => by
        unfold pT
        split
        · rfl
        · rw [if_pos (Or.inr (Or.inr (Or.inr (Or.inr (Or.inl h)))))]
      have badT : ∀ r, (∀ m x y q, r = m :: x :: y :: q → (m ≠ 45 ∨ dig x = false ∨ dig y = false ∨ 53 < x.toNat) ∨ (q ≠ [] ∧ q.head? ≠ some 46)) → rT deg r mi = (0, 7) := fun r h => by
        unfold rT
        split
        · rfl
        · split
          · rename_i m x y q
            split
            · rfl
            · rename_i c
              rcases h m x y q rfl with h | h
              · exact absurd h c
              · rw [if_pos ⟨h.1, Or.inl h.2⟩]
          · rfl
      match rest with
      | [] => rw [short _ _ _ (by simp), badT _ (by intro m x y q e; simp at e)]
      | [z] =>
        rw [short _ _ _ (by by_cases h : z = 46 <;> simp [List.takeWhile_cons, h]), badT _ (by intro m x y q e; simp at e)]
      | x :: y :: q =>
        by_cases hx : x = 46
        · subst hx
          rw [short _ _ _ (by simp [List.takeWhile_cons]), badT _ (by
            intro m x y' q' e
            obtain ⟨rfl, rfl, rfl, rfl⟩ : 45 = m ∧ 46 = x ∧ y = y' ∧ q = q' := by simpa using e
            exact Or.inl (Or.inr (Or.inl (by decide))))]
        · have hx' : (x != 46) = true := by simpa using hx
          by_cases hy : y = 46
          · subst hy
            rw [short _ _ _ (by simp [List.takeWhile_cons, hx']), badT _ (by
              intro m x y' q' e
              obtain ⟨rfl, rfl, rfl, rfl⟩ : 45 = m ∧ _ = x ∧ 46 = y' ∧ q = q' := by simpa using e
              exact Or.inl (Or.inr (Or.inr (Or.inl (by decide)))))]
          · have hy' : (y != 46) = true := by simpa using hy
            match q with
            | [] =>
              have := tail_same deg [] x y false mi hd (fun _ => rfl)
              simp only [List.takeWhile_cons, List.dropWhile_cons, hx', hy', if_true, List.takeWhile_nil, List.dropWhile_nil, List.drop_nil]
              rw [decide_eq_false (by simp [Ne.symm hx, Ne.symm hy])]
              exact this
            | z :: q =>
              by_cases hz : z = 46
              · subst hz
                have := tail_same deg q x y true mi hd (fun h => by cases h)
                simp only [List.takeWhile_cons, List.dropWhile_cons, hx', hy', if_true, List.takeWhile_nil, List.dropWhile_nil, List.drop_nil]
                rw [decide_eq_true (by simp)]
                simpa using this
              · have hz' : (z != 46) = true := by simpa using hz
                rw [short _ _ _ (by simp [List.takeWhile_cons, hx', hy', hz']), badT _ (by
                  intro m x' y' q' e
                  obtain ⟨rfl, rfl, rfl, rfl⟩ : 45 = m ∧ x = x' ∧ y = y' ∧ z :: q = q' := by simpa using e
                  exact Or.inr ⟨by simp, by simpa using hz⟩)]
    · have hd' : deg.all dig = false := by simpa using hd
      rw [rT_no (drop_mid (45 :: rest) hd' n)]
      unfold pT
      split
      · rfl
      · rw [if_pos (Or.inr (Or.inl (by unfold okD; rw [hd']; rfl)))]
  · rw [decide_eq_false m, rT_no (fun c q e => by
      obtain ⟨-, h⟩ := drop_head e
      rintro rfl
      exact m h)]
    unfold pT
    split
    · rfl
    · rw [if_pos (Or.inl rfl)]
end Go.Proofs.YtkcelhhhbbpbpaaDoor
