/- Tokens are read again: the plain law. No program is in sight here. -/
import Derived.Test.YtobmbbmompoliaaDoorTokP
namespace Go.Proofs.YtobmbbmompoliaaDoor
open Go Go.Abs Go.RowKit
set_option linter.unusedVariables false
set_option linter.unusedSimpArgs false
theorem bt_range (s : ByteArray) (i : Nat) : 0 ≤ bt s i ∧ bt s i ≤ 255 := by
  unfold bt
  have : (s.get! i).toNat < 256 := UInt8.toNat_lt _
  omega
/-- Two texts read alike for a while; then a blank follows in the second. -/
structure Same (s u : ByteArray) (i p n : Nat) : Prop where
  n0 : 0 < n
  sz : i + n ≤ s.size
  eq : ∀ j, j < n → bt u (p + j) = bt s (i + j)
  lt : p + n < u.size
  bl : bt u (p + n) = 32
theorem same_run {s u : ByteArray} {i p n : Nat} {q : Int → Bool} (h : Same s u i p n) (hq : q 32 = false) (r : runE q s i = i + n) : runE q u p = p + n := by
  have R := runE_is q s (i := i) (by have := h.sz; omega)
  rw [r] at R
  refine run_eq ⟨by omega, Nat.le_of_lt h.lt, fun k a b => ?_, fun _ => by rw [h.bl]; exact hq⟩
  have e := h.eq (k - p) (by omega)
  rw [show p + (k - p) = k by omega] at e
  rw [e]
  exact R.all (i + (k - p)) (by omega) (by omega)
theorem num_same {s u : ByteArray} {i p n : Nat} (h : Same s u i p n) (e : numE s i = i + n) : numE u p = p + n := by
  have hi : i ≤ s.size := by have := h.sz; omega
  have R := runE_is digI s hi
  unfold numE at e ⊢
  dsimp only at e ⊢
  generalize hE : runE digI s i = E at *
  by_cases c : E < s.size ∧ bt s E = 46
  · rw [if_pos c] at e
    by_cases d : E + 1 < runE digI s (E + 1)
    · rw [if_pos d] at e
      have R2 := runE_is digI s (i := E + 1) (by omega)
      rw [e] at R2 d
      have hEl := R.le
      have e1 : runE digI u p = p + (E - i) := by
        refine run_eq ⟨by omega, by have := h.lt; omega, fun k a b => ?_, fun _ => ?_⟩
        · have x := h.eq (k - p) (by omega)
          rw [show p + (k - p) = k by omega] at x
          rw [x]
          exact R.all (i + (k - p)) (by omega) (by omega)
        · have x := h.eq (E - i) (by omega)
          rw [show i + (E - i) = E by omega] at x
          rw [x, c.2]
          decide
      have b46 : bt u (p + (E - i)) = 46 := by
        have x := h.eq (E - i) (by omega)
        rw [show i + (E - i) = E by omega] at x
        rw [x, c.2]
      have e2 : runE digI u (p + (E - i) + 1) = p + n := by
        refine run_eq ⟨by omega, Nat.le_of_lt h.lt, fun k a b => ?_, fun _ => by rw [h.bl]; decide⟩
        have x := h.eq (k - p) (by omega)
        rw [show p + (k - p) = k by omega] at x
        rw [x]
        exact R2.all (i + (k - p)) (by omega) (by omega)
      rw [e1, if_pos ⟨by have := h.lt; omega, b46⟩, e2, if_pos (by omega)]
    · rw [if_neg d] at e
      have e1 := same_run (q := digI) h (by decide) (by rw [hE]; exact e)
      rw [e1, if_neg (fun k => by have := k.2; rw [h.bl] at this; cases this)]
  · rw [if_neg c] at e
    have e1 := same_run (q := digI) h (by decide) (by rw [hE]; exact e)
    rw [e1, if_neg (fun k => by have := k.2; rw [h.bl] at this; cases this)]
theorem tok_same {s u : ByteArray} {i p n : Nat} {k : Int} (h : Same s u i p n) (hk : k = 1 ∨ k = 2 ∨ k = 3) (t : tokE s i = (k, i + n)) : tokE u p = (k, p + n) := by
  have b : bt u p = bt s i := by have := h.eq 0 h.n0; simpa using this
  unfold tokE at t ⊢
  rw [b]
  by_cases c1 : bt s i = 32 ∨ bt s i = 9
  · rw [if_pos c1] at t; have := (Prod.mk.inj t).1; omega
  rw [if_neg c1] at t ⊢
  by_cases c2 : bt s i = 10
  · rw [if_pos c2] at t; have := (Prod.mk.inj t).1; omega
  rw [if_neg c2] at t ⊢
  by_cases c3 : bt s i = 35
  · rw [if_pos c3] at t; have := (Prod.mk.inj t).1; omega
  rw [if_neg c3] at t ⊢
  by_cases c4 : ltrI (bt s i) = true
  · rw [if_pos c4] at t ⊢
    obtain ⟨t1, t2⟩ := Prod.mk.inj t
    have r := same_run (q := wordI) h (by decide) t2
    rw [t2] at t1
    rw [r, show p + n - p = i + n - i by omega, t1]
  rw [if_neg c4] at t ⊢
  by_cases c5 : digI (bt s i) = true
  · rw [if_pos c5] at t ⊢
    obtain ⟨t1, t2⟩ := Prod.mk.inj t
    rw [num_same h t2, t1]
  rw [if_neg c5] at t ⊢
  by_cases c6 : symI (bt s i) = true
  · rw [if_pos c6] at t ⊢
    obtain ⟨t1, t2⟩ := Prod.mk.inj t
    rw [← t1, show n = 1 by omega]
  rw [if_neg c6] at t
  have := (Prod.mk.inj t).1
  omega
theorem tok_blank32 {u : ByteArray} {p : Nat} (h : bt u p = 32) : tokE u p = (0, p + 1) := by unfold tokE; rw [if_pos (.inl h)]
theorem tok_nl {u : ByteArray} {p : Nat} (h : bt u p = 10) : tokE u p = (4, p + 1) := by unfold tokE; rw [if_neg (by omega), if_pos h]
/-- What is written for a token. -/
def jnT (t : Tok) : List UInt8 := if t.1 = 4 then [10] else t.2.1.data.toList ++ [32]
def jnL (l : List Tok) : List UInt8 := l.flatMap jnT
def ktT (t : Tok) : Int × ByteArray := (t.1, t.2.1)
/-- What a token is, but for its position. -/
def Kin (t : Tok) : Prop := (t.1 = 4 ∧ t.2.1 = ⟨#[]⟩) ∨ ((t.1 = 1 ∨ t.1 = 2 ∨ t.1 = 3) ∧ ∃ s i n, 0 < n ∧ i + n ≤ s.size ∧ tokE s i = (t.1, i + n) ∧ t.2.1 = cutS s i (i + n))
theorem bt_list {u : ByteArray} {p : Nat} (h : p < u.size) : bt u p = ((u.data.toList.getD p 0).toNat : Int) := by
  unfold bt
  cases u with
  | mk d =>
    have h : p < d.size := h
    show ((d[p]!).toNat : Int) = _
    rw [getElem!_pos d p h]
    simp [h]
/-- A tail of a text, read byte by byte. -/
theorem bt_tail {u : ByteArray} {p : Nat} {l r : List UInt8} (h : u.data.toList.drop p = l ++ r) {j : Nat} (hj : j < l.length) : p + j < u.size ∧ bt u (p + j) = ((l.getD j 0).toNat : Int) := by
  have hl := congrArg List.length h
  rw [List.length_drop, List.length_append, Array.length_toList] at hl
  have hs : p + j < u.size := by
    have : u.size = u.data.size := rfl
    omega
  refine ⟨hs, ?_⟩
  rw [bt_list hs]
  have e : u.data.toList[p + j]? = l[j]? := by
    rw [← List.getElem?_drop, h, List.getElem?_append_left hj]
  rw [List.getD_eq_getElem?_getD, List.getD_eq_getElem?_getD, e]
theorem cut_list (s : ByteArray) (i e : Nat) : (cutS s i e).data.toList = (s.data.toList.drop i).take (e - i) := by
  unfold cutS
  rw [ByteArray.data_extract, Array.toList_extract, List.extract_eq_take_drop]
theorem cut_len {s : ByteArray} {i n : Nat} (h : i + n ≤ s.size) : (cutS s i (i + n)).data.toList.length = n := by
  rw [cut_list, List.length_take, List.length_drop, Array.length_toList]
  have : s.size = s.data.size := rfl
  omega
theorem same_of {s u : ByteArray} {i p n : Nat} {r : List UInt8} (n0 : 0 < n) (hs : i + n ≤ s.size) (h : u.data.toList.drop p = (cutS s i (i + n)).data.toList ++ 32 :: r) : Same s u i p n := by
  have hl := cut_len hs
  have h' : u.data.toList.drop p = ((cutS s i (i + n)).data.toList ++ [32]) ++ r := by rw [h]; simp
  have e := bt_tail h' (j := n) (by simp [hl])
  refine ⟨n0, hs, fun j hj => ?_, e.1, ?_⟩
  · have f := (bt_tail h (j := j) (by omega)).2
    rw [f, cut_list, bt_list (by omega), List.getD_eq_getElem?_getD, List.getElem?_take_of_lt (by omega), List.getElem?_drop, ← List.getD_eq_getElem?_getD]
  · rw [e.2, List.getD_eq_getElem?_getD, List.getElem?_append_right (by omega), hl, Nat.sub_self]
    rfl
theorem ext_bytes {a b : ByteArray} (h : a.data.toList = b.data.toList) : a = b := by
  apply ByteArray.ext
  exact Array.toList_inj.mp h
/-- Tokens that are written one after the other are read again. -/
theorem read_again (u : ByteArray) : ∀ (l : List Tok) (p : Nat) (line col : Int) (acc : List Tok), (∀ t ∈ l, Kin t) → u.data.toList.drop p = jnL l ++ [32] →
    ∃ ts, (toksA u p line col acc).toks = acc ++ ts ∧ ts.map ktT = l.map ktT ++ [(5, ⟨#[]⟩)] ∧ (toksA u p line col acc).err = 0
  | [], p, line, col, acc, _, h => by
    have h : u.data.toList.drop p = [32] ++ [] := h
    have e := bt_tail h (j := 0) (by simp)
    rw [Nat.add_zero] at e
    have hl := congrArg List.length h
    rw [List.length_drop, Array.length_toList] at hl
    have sz : u.size = u.data.size := rfl
    simp at hl
    rw [toksA_step e.1 (tok_blank32 e.2) (by decide), toksA_end (by omega)]
    refine ⟨[(5, ⟨#[]⟩, (if (0 : Int) = 4 then line + 1 else line), (if (0 : Int) = 4 then 1 else col + ((p + 1 - p : Nat) : Int)))], ?_, rfl, rfl⟩
    unfold addT
    rw [if_pos rfl]
  | t :: l, p, line, col, acc, hk, h => by
    obtain ⟨k, tx, ln, cl⟩ := t
    have kin := hk _ (List.mem_cons_self ..)
    have hk' : ∀ t ∈ l, Kin t := fun t ht => hk t (List.mem_cons_of_mem _ ht)
    have h : u.data.toList.drop p = (jnT (k, tx, ln, cl) ++ jnL l) ++ [32] := by rw [h]; rfl
    rcases kin with ⟨k4, tx0⟩ | ⟨kk, s, i, n, n0, hs, ht, hc⟩
    · have k4 : k = 4 := k4
      have tx0 : tx = ⟨#[]⟩ := tx0
      subst k4 tx0
      have e0 : jnT (4, ⟨#[]⟩, ln, cl) = [10] := if_pos rfl
      rw [e0] at h
      have h1 : u.data.toList.drop p = [10] ++ (jnL l ++ [32]) := by rw [h]; simp
      have e := bt_tail h1 (j := 0) (by simp)
      rw [Nat.add_zero] at e
      have h2 : u.data.toList.drop (p + 1) = jnL l ++ [32] := by rw [← List.drop_drop, h1]; rfl
      rw [toksA_step e.1 (tok_nl e.2) (by decide)]
      obtain ⟨ts, t1, t2, t3⟩ := read_again u l (p + 1) (if (4 : Int) = 4 then line + 1 else line) (if (4 : Int) = 4 then 1 else col + ((p + 1 - p : Nat) : Int)) (addT u p 4 (p + 1) line col acc) hk' h2
      refine ⟨(4, ⟨#[]⟩, line, col) :: ts, ?_, ?_, t3⟩
      · rw [t1]
        unfold addT
        rw [if_neg (by decide), if_pos rfl]
        simp
      · rw [List.map_cons, t2]
        rfl
    · have kk : k = 1 ∨ k = 2 ∨ k = 3 := kk
      have ht : tokE s i = (k, i + n) := ht
      have hc : tx = cutS s i (i + n) := hc
      subst hc
      have e0 : jnT (k, cutS s i (i + n), ln, cl) = (cutS s i (i + n)).data.toList ++ [32] := if_neg (by show ¬ k = 4; omega)
      rw [e0] at h
      have h1 : u.data.toList.drop p = (cutS s i (i + n)).data.toList ++ 32 :: (jnL l ++ [32]) := by rw [h]; simp
      have S := same_of n0 hs h1
      have hl := cut_len hs
      have h2 : u.data.toList.drop (p + n + 1) = jnL l ++ [32] := by
        rw [Nat.add_assoc, ← List.drop_drop, h1, show n + 1 = (cutS s i (i + n)).data.toList.length + 1 by rw [hl], List.drop_append]
        simp
      have et := tok_same S kk ht
      have elt := S.lt
      rw [toksA_step (by omega) et (by omega), toksA_step S.lt (tok_blank32 S.bl) (by decide)]
      obtain ⟨ts, t1, t2, t3⟩ := read_again u l (p + n + 1) (if (0 : Int) = 4 then (if k = 4 then line + 1 else line) + 1 else (if k = 4 then line + 1 else line)) (if (0 : Int) = 4 then 1 else (if k = 4 then 1 else col + ((p + n - p : Nat) : Int)) + ((p + n + 1 - (p + n) : Nat) : Int)) (addT u (p + n) 0 (p + n + 1) (if k = 4 then line + 1 else line) (if k = 4 then 1 else col + ((p + n - p : Nat) : Int)) (addT u p k (p + n) line col acc)) hk' h2
      refine ⟨(k, cutS s i (i + n), line, col) :: ts, ?_, ?_, t3⟩
      · rw [t1]
        have e3 : cutS u p (p + n) = cutS s i (i + n) := ext_bytes (by
          rw [cut_list u, h1, Nat.add_sub_cancel_left]
          exact List.take_left' hl)
        unfold addT
        rw [if_pos rfl, if_neg (by omega), if_neg (by omega), e3]
        simp
      · rw [List.map_cons, t2]
        rfl
/-! Where tokens stand. -/
/-- The lines of a text. -/
def lnF (l : List UInt8) : List (List UInt8) :=
  match l with
  | [] => [[]]
  | c :: r => if c = 10 then [] :: lnF r else (match lnF r with | [] => [[c]] | x :: xs => (c :: x) :: xs)
theorem lnF_ne (l : List UInt8) : ∃ x xs, lnF l = x :: xs := by
  cases l with
  | nil => exact ⟨[], [], rfl⟩
  | cons c r =>
    unfold lnF
    split
    · exact ⟨_, _, rfl⟩
    · split
      · exact ⟨_, _, rfl⟩
      · exact ⟨_, _, rfl⟩
theorem lnF_one : ∀ {l : List UInt8}, (10 : UInt8) ∉ l → lnF l = [l]
  | [], _ => rfl
  | c :: r, h => by
    have h1 : c ≠ 10 := fun e => h (by rw [e]; exact List.mem_cons_self ..)
    have h2 := lnF_one (l := r) (fun e => h (List.mem_cons_of_mem _ e))
    unfold lnF
    rw [if_neg h1, h2]
theorem lnF_rec : ∀ {a b : List UInt8}, (10 : UInt8) ∉ a → lnF (a ++ 10 :: b) = a :: lnF b
  | [], b, _ => by
    show lnF (10 :: b) = _
    conv => lhs; unfold lnF
    rw [if_pos rfl]
  | c :: r, b, h => by
    have h1 : c ≠ 10 := fun e => h (by rw [e]; exact List.mem_cons_self ..)
    have h2 := lnF_rec (a := r) (b := b) (fun e => h (List.mem_cons_of_mem _ e))
    show lnF (c :: (r ++ 10 :: b)) = _
    conv => lhs; unfold lnF
    rw [if_neg h1, h2]
/-- The first line of what remains has a piece ahead that has no end of line. -/
theorem lnF_head {a b : List UInt8} (h : (10 : UInt8) ∉ a) : ∃ x xs, lnF (a ++ b) = (a ++ x) :: xs ∧ lnF b = x :: xs := by
  induction a with
  | nil =>
    obtain ⟨x, xs, e⟩ := lnF_ne b
    exact ⟨x, xs, e, e⟩
  | cons c r ih =>
    have h1 : c ≠ 10 := fun e => h (by rw [e]; exact List.mem_cons_self ..)
    obtain ⟨x, xs, e1, e2⟩ := ih (fun e => h (List.mem_cons_of_mem _ e))
    refine ⟨x, xs, ?_, e2⟩
    show lnF (c :: (r ++ b)) = _
    conv => lhs; unfold lnF
    rw [if_neg h1, e1]
    rfl
/-- A token stands in the text at its position. -/
structure AtOk (L : List UInt8) (t : Tok) : Prop where
  l1 : 1 ≤ t.2.2.1
  ll : t.2.2.1 ≤ ((lnF L).length : Int)
  c1 : 1 ≤ t.2.2.2
  cl : t.2.2.2 ≤ (((lnF L).getD (t.2.2.1 - 1).toNat []).length : Int) + 1
  pre : t.2.1.data.toList <+: ((lnF L).getD (t.2.2.1 - 1).toNat []).drop (t.2.2.2 - 1).toNat
/-- Between two steps: where the line began. -/
structure PosI (L : List UInt8) (i : Nat) (line col : Int) : Prop where
  ex : ∃ b : Nat, b ≤ i ∧ col = (i : Int) - b + 1 ∧ (10 : UInt8) ∉ (L.drop b).take (i - b) ∧ 1 ≤ line ∧ (lnF L).drop (line - 1).toNat = lnF (L.drop b)
theorem pos_zero (L : List UInt8) : PosI L 0 1 1 := ⟨0, Nat.le_refl _, rfl, by simp, by omega, rfl⟩
theorem pos_on {L : List UInt8} {i : Nat} {line col : Int} (h : PosI L i line col) {n : Nat} (hn : (10 : UInt8) ∉ (L.drop i).take n) : PosI L (i + n) line (col + (n : Int)) := by
  obtain ⟨b, h1, h2, h3, h4, h5⟩ := h.ex
  refine ⟨b, by omega, by omega, ?_, h4, h5⟩
  rw [show i + n - b = (i - b) + n by omega, List.take_add, List.drop_drop, show b + (i - b) = i by omega]
  intro q
  rcases List.mem_append.1 q with q | q
  · exact h3 q
  · exact hn q
theorem pos_nl {L : List UInt8} {i : Nat} {line col : Int} (h : PosI L i line col) (hi : i < L.length) (e : L.getD i 0 = 10) : PosI L (i + 1) (line + 1) 1 := by
  obtain ⟨b, h1, h2, h3, h4, h5⟩ := h.ex
  refine ⟨i + 1, Nat.le_refl _, by omega, by simp, by omega, ?_⟩
  have s : L.drop b = (L.drop b).take (i - b) ++ 10 :: L.drop (i + 1) := by
    have a := (List.take_append_drop (i - b) (L.drop b)).symm
    rw [List.drop_drop, show b + (i - b) = i by omega, List.drop_eq_getElem_cons hi] at a
    have g : L[i] = 10 := by
      rw [List.getD_eq_getElem?_getD, List.getElem?_eq_getElem hi] at e
      exact e
    rw [g] at a
    exact a
  rw [show (line + 1 - 1).toNat = (line - 1).toNat + 1 by omega, ← List.drop_drop, h5]
  conv => lhs; rw [s]
  rw [lnF_rec h3]
  rfl
theorem at_pos {L : List UInt8} {i : Nat} {line col : Int} (h : PosI L i line col) {k : Int} {tx : ByteArray} (hi : i ≤ L.length) (hp : tx.data.toList <+: L.drop i) (hn : (10 : UInt8) ∉ tx.data.toList) : AtOk L (k, tx, line, col) := by
  obtain ⟨b, h1, h2, h3, h4, h5⟩ := h.ex
  have s : L.drop b = (L.drop b).take (i - b) ++ L.drop i := by
    have a := (List.take_append_drop (i - b) (L.drop b)).symm
    rw [List.drop_drop, show b + (i - b) = i by omega] at a
    exact a
  have sl : ((L.drop b).take (i - b)).length = i - b := by rw [List.length_take, List.length_drop]; omega
  obtain ⟨x, xs, e1, e2⟩ := lnF_head (a := (L.drop b).take (i - b)) (b := L.drop i) h3
  rw [← s, ← h5] at e1
  have len : (line - 1).toNat < (lnF L).length := by
    apply Nat.lt_of_not_le
    intro q
    rw [List.drop_eq_nil_of_le q] at e1
    cases e1
  have g : (lnF L).getD (line - 1).toNat [] = (L.drop b).take (i - b) ++ x := by
    rw [List.drop_eq_getElem_cons len] at e1
    rw [List.getD_eq_getElem?_getD, List.getElem?_eq_getElem len]
    exact (List.cons.inj e1).1
  have px : tx.data.toList <+: x := by
    obtain ⟨r, hr⟩ := hp
    obtain ⟨y, ys, f1, f2⟩ := lnF_head (a := tx.data.toList) (b := r) hn
    rw [hr, e2] at f1
    exact ⟨y, ((List.cons.inj f1).1).symm⟩
  refine ⟨h4, by show line ≤ _; omega, by show 1 ≤ col; omega, ?_, ?_⟩
  · show col ≤ (((lnF L).getD (line - 1).toNat []).length : Int) + 1
    rw [g, List.length_append, sl]
    omega
  · show tx.data.toList <+: ((lnF L).getD (line - 1).toNat []).drop (col - 1).toNat
    rw [g, show (col - 1).toNat = ((L.drop b).take (i - b)).length by rw [sl]; omega, List.drop_left]
    exact px
/-! The tokens of a text. -/
theorem tok_kinds' (s : ByteArray) (i : Nat) : (tokE s i).1 = 0 ∨ (tokE s i).1 = 1 ∨ (tokE s i).1 = 2 ∨ (tokE s i).1 = 3 ∨ (tokE s i).1 = 4 ∨ (tokE s i).1 = -1 := by
  unfold tokE
  repeat' split
  all_goals simp
theorem word_nl {c : Int} (h : wordI c = true) : c ≠ 10 := fun e => by rw [e] at h; exact absurd h (by decide)
theorem dig_nl {c : Int} (h : digI c = true) : c ≠ 10 := fun e => by rw [e] at h; exact absurd h (by decide)
theorem sym_nl {c : Int} (h : symI c = true) : c ≠ 10 := fun e => by rw [e] at h; exact absurd h (by decide)
theorem no_nl {s : ByteArray} {i : Nat} {k : Int} {e : Nat} (hi : i < s.size) (t : tokE s i = (k, e)) (hk : ¬ k < 0) (h4 : k ≠ 4) : ∀ j, i ≤ j → j < e → bt s j ≠ 10 := by
  intro j h1 h2
  unfold tokE at t
  by_cases c1 : bt s i = 32 ∨ bt s i = 9
  · rw [if_pos c1] at t
    have := (Prod.mk.inj t).2
    rw [show j = i by omega]
    omega
  rw [if_neg c1] at t
  by_cases c2 : bt s i = 10
  · rw [if_pos c2] at t; have := (Prod.mk.inj t).1; omega
  rw [if_neg c2] at t
  by_cases c3 : bt s i = 35
  · rw [if_pos c3] at t
    have e2 := (Prod.mk.inj t).2
    have r := (runE_is nlI s (Nat.le_of_lt hi)).all j h1 (by omega)
    unfold nlI at r
    simpa using r
  rw [if_neg c3] at t
  by_cases c4 : ltrI (bt s i) = true
  · rw [if_pos c4] at t
    have e2 := (Prod.mk.inj t).2
    exact word_nl ((runE_is wordI s (Nat.le_of_lt hi)).all j h1 (by omega))
  rw [if_neg c4] at t
  by_cases c5 : digI (bt s i) = true
  · rw [if_pos c5] at t
    have e2 := (Prod.mk.inj t).2
    have R := runE_is digI s (Nat.le_of_lt hi)
    by_cases q : j < runE digI s i
    · exact dig_nl (R.all j h1 q)
    · unfold numE at e2
      dsimp only at e2
      split at e2
      · rename_i c
        split at e2
        · by_cases q2 : j = runE digI s i
          · rw [q2, c.2]; decide
          · exact dig_nl ((runE_is digI s (i := runE digI s i + 1) (by omega)).all j (by omega) (by omega))
        · omega
      · omega
  rw [if_neg c5] at t
  by_cases c6 : symI (bt s i) = true
  · rw [if_pos c6] at t
    have e2 := (Prod.mk.inj t).2
    rw [show j = i by omega]
    exact sym_nl c6
  rw [if_neg c6] at t
  have := (Prod.mk.inj t).1
  omega
theorem no_nl_list {s : ByteArray} {i e : Nat} (he : e ≤ s.size) (h : ∀ j, i ≤ j → j < e → bt s j ≠ 10) : (10 : UInt8) ∉ (s.data.toList.drop i).take (e - i) := by
  intro q
  obtain ⟨j, hj⟩ := List.mem_iff_getElem?.1 q
  have hlt : j < e - i := by
    apply Nat.lt_of_not_le
    intro z
    rw [List.getElem?_eq_none (by rw [List.length_take]; omega)] at hj
    cases hj
  rw [List.getElem?_take_of_lt hlt, List.getElem?_drop] at hj
  have b := h (i + j) (by omega) (by omega)
  rw [bt_list (by omega), List.getD_eq_getElem?_getD, hj] at b
  exact b rfl
structure JI (s : ByteArray) (i : Nat) (line col : Int) (out : List Tok) : Prop where
  kin : ∀ t ∈ out, Kin t
  at' : ∀ t ∈ out, AtOk s.data.toList t
  len : (jnL out).length ≤ 2 * i
  pos : PosI s.data.toList i line col
theorem ji_zero (s : ByteArray) : JI s 0 1 1 [] := ⟨(fun t h => by cases h), (fun t h => by cases h), Nat.zero_le _, pos_zero _⟩
theorem jn_snoc (out : List Tok) (t : Tok) : (jnL (out ++ [t])).length = (jnL out).length + (jnT t).length := by
  unfold jnL
  rw [List.flatMap_append, List.length_append]
  simp
theorem ji_step {s : ByteArray} {i : Nat} {k : Int} {e : Nat} {line col : Int} {out : List Tok} (j : JI s i line col out) (hi : i < s.size) (t : tokE s i = (k, e)) (hk : ¬ k < 0) : JI s e (if k = 4 then line + 1 else line) (if k = 4 then 1 else col + (e - i : Nat)) (addT s i k e line col out) := by
  have hb := tokE_is hi
  rw [t] at hb
  dsimp only at hb
  have sz : s.size = s.data.toList.length := (Array.length_toList (xs := s.data)).symm
  obtain ⟨j1, j2, j3, j4⟩ := j
  by_cases k4 : k = 4
  · subst k4
    have e2 : e = i + 1 ∧ bt s i = 10 := by
      have t' := t
      unfold tokE at t'
      by_cases c1 : bt s i = 32 ∨ bt s i = 9
      · rw [if_pos c1] at t'; have := (Prod.mk.inj t').1; omega
      rw [if_neg c1] at t'
      by_cases c2 : bt s i = 10
      · rw [if_pos c2] at t'; exact ⟨((Prod.mk.inj t').2).symm, c2⟩
      rw [if_neg c2] at t'
      exfalso
      repeat' split at t'
      all_goals (have := (Prod.mk.inj t').1; first | omega | (split at this <;> omega))
    obtain ⟨rfl, b10⟩ := e2
    have g10 : s.data.toList.getD i 0 = 10 := by
      rw [bt_list hi] at b10
      have : (s.data.toList.getD i 0).toNat = 10 := by omega
      exact UInt8.toNat_inj.1 this
    rw [if_pos rfl, if_pos rfl]
    have ha : addT s i 4 (i + 1) line col out = out ++ [(4, ⟨#[]⟩, line, col)] := by unfold addT; rw [if_neg (by decide), if_pos rfl]
    rw [ha]
    refine ⟨fun t ht => ?_, fun t ht => ?_, ?_, pos_nl j4 (by omega) g10⟩
    · rcases List.mem_append.1 ht with q | q
      · exact j1 t q
      · rw [List.mem_singleton.1 q]; exact .inl ⟨rfl, rfl⟩
    · rcases List.mem_append.1 ht with q | q
      · exact j2 t q
      · rw [List.mem_singleton.1 q]; exact at_pos j4 (by omega) (List.nil_prefix) (by simp)
    · rw [jn_snoc]
      show _ + (jnT (4, ⟨#[]⟩, line, col)).length ≤ _
      unfold jnT
      rw [if_pos rfl]
      simp
      omega
  · rw [if_neg k4, if_neg k4]
    have nn := no_nl_list (by omega) (no_nl hi t hk k4)
    have p := pos_on j4 nn
    rw [show i + (e - i) = e by omega] at p
    by_cases k0 : k = 0
    · have ha : addT s i k e line col out = out := by unfold addT; rw [if_pos k0]
      rw [ha]
      exact ⟨j1, j2, by omega, p⟩
    · have kk : k = 1 ∨ k = 2 ∨ k = 3 := by
        have := tok_kinds' s i
        rw [t] at this
        dsimp only at this
        omega
      have ha : addT s i k e line col out = out ++ [(k, cutS s i e, line, col)] := by unfold addT; rw [if_neg k0, if_neg k4]
      have cl := cut_len (s := s) (i := i) (n := e - i) (by omega)
      rw [show i + (e - i) = e by omega] at cl
      rw [ha]
      refine ⟨fun x hx => ?_, fun x hx => ?_, ?_, p⟩
      · rcases List.mem_append.1 hx with q | q
        · exact j1 x q
        · rw [List.mem_singleton.1 q]
          exact .inr ⟨kk, s, i, e - i, by omega, by omega, by rw [show i + (e - i) = e by omega]; exact t, by rw [show i + (e - i) = e by omega]⟩
      · rcases List.mem_append.1 hx with q | q
        · exact j2 x q
        · rw [List.mem_singleton.1 q]
          exact at_pos j4 (by omega) (by rw [cut_list]; exact List.take_prefix _ _) (by rw [cut_list]; exact nn)
      · rw [jn_snoc]
        unfold jnT
        rw [if_neg k4, List.length_append, cl]
        simp
        omega
theorem toksF_ji (s : ByteArray) : ∀ (f i : Nat) (line col : Int) (out : List Tok), s.size - i ≤ f → i ≤ s.size → JI s i line col out →
    (∃ out' line' col', toksF s f i line col out = ⟨out' ++ [(5, ⟨#[]⟩, line', col')], 0, 0, 0⟩ ∧ JI s s.size line' col' out') ∨ ((toksF s f i line col out).toks = [] ∧ (toksF s f i line col out).err = 7)
  | 0, i, line, col, out, hf, hi, j => .inl ⟨out, line, col, rfl, by rw [show s.size = i by omega]; exact j⟩
  | f + 1, i, line, col, out, hf, hi, j => by
    unfold toksF
    split
    · rename_i c
      exact .inl ⟨out, line, col, rfl, by rw [show s.size = i by omega]; exact j⟩
    · rename_i c
      split
      · exact .inr ⟨rfl, rfl⟩
      · rename_i d
        have hb := tokE_is (s := s) (i := i) (by omega)
        exact toksF_ji s f _ _ _ _ (by omega) hb.2 (ji_step j (by omega) rfl d)
/-- What the law of joined tokens asks. -/
theorem joins_plain {s : ByteArray} (hs : s.size ≤ 400) : (tokErr s ≠ 0 ∧ tokL s = []) ∨ (tokErr s = 0 ∧ ∃ out line col, tokL s = out ++ [(5, ⟨#[]⟩, line, col)] ∧ (∀ t ∈ out, Kin t) ∧ (∀ t ∈ tokL s, AtOk s.data.toList t) ∧ (jnL out).length ≤ 800) := by
  unfold tokErr tokL
  rw [if_neg (by omega), if_neg (by omega)]
  rcases toksF_ji s (s.size - 0) 0 1 1 [] (Nat.le_refl _) (Nat.zero_le _) (ji_zero s) with ⟨out, line, col, e, j⟩ | ⟨e1, e2⟩
  · have e : toksOf s = ⟨out ++ [(5, ⟨#[]⟩, line, col)], 0, 0, 0⟩ := e
    rw [e]
    refine .inr ⟨rfl, out, line, col, rfl, j.kin, fun t ht => ?_, by have := j.len; omega⟩
    rcases List.mem_append.1 ht with q | q
    · exact j.at' t q
    · rw [List.mem_singleton.1 q]
      have sz : s.size = s.data.toList.length := (Array.length_toList (xs := s.data)).symm
      exact at_pos j.pos (by omega) List.nil_prefix (by simp)
  · have e1 : (toksOf s).toks = [] := e1
    have e2 : (toksOf s).err = 7 := e2
    exact .inl ⟨by rw [e2]; decide, e1⟩
theorem joins_read {out : List Tok} (hk : ∀ t ∈ out, Kin t) (hl : (jnL out).length ≤ 800) :
    tokErr ⟨(jnL out ++ [32]).toArray⟩ = 0 ∧ (tokL ⟨(jnL out ++ [32]).toArray⟩).map ktT = out.map ktT ++ [(5, ⟨#[]⟩)] := by
  have sz : (ByteArray.mk (jnL out ++ [32]).toArray).size = (jnL out).length + 1 := by simp [ByteArray.size]
  obtain ⟨ts, t1, t2, t3⟩ := read_again ⟨(jnL out ++ [32]).toArray⟩ out 0 1 1 [] hk (by simp)
  unfold tokErr tokL
  rw [if_neg (by omega), if_neg (by omega)]
  have t1 : (toksOf ⟨(jnL out ++ [32]).toArray⟩).toks = [] ++ ts := t1
  have t3 : (toksOf ⟨(jnL out ++ [32]).toArray⟩).err = 0 := t3
  rw [t1, t3]
  exact ⟨rfl, by rw [List.nil_append]; exact t2⟩
end Go.Proofs.YtobmbbmompoliaaDoor
