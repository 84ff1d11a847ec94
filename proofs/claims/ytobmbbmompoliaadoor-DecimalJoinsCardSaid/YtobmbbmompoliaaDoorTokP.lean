/- Tokens of a text: what they are. The plain law. -/
import Derived.Test.YtobmbbmompoliaaDoorAbs
import Derived.Lib.IndexMore
namespace Go.Proofs.YtobmbbmompoliaaDoor
open Go Go.Abs Go.RowKit
set_option linter.unusedVariables false
set_option linter.unusedSimpArgs false
abbrev Tok : Type := Int × ByteArray × Int × Int
/-- The byte at an index, as a number. -/
def bt (s : ByteArray) (i : Nat) : Int := ((s.get! i).toNat : Int)
def ltrI (c : Int) : Bool := decide ((97 ≤ c ∧ c ≤ 122) ∨ (65 ≤ c ∧ c ≤ 90))
def digI (c : Int) : Bool := decide (48 ≤ c ∧ c ≤ 57)
def wordI (c : Int) : Bool := ltrI c || digI c || decide (c = 95)
def nlI (c : Int) : Bool := !decide (c = 10)
def symL : List Int := [45, 43, 58, 44, 59, 47, 61, 40, 41, 60, 62, 42, 64, 63]
def symI (c : Int) : Bool := symL.contains c
/-- A run of bytes that have a property. -/
structure Run (p : Int → Bool) (s : ByteArray) (i e : Nat) : Prop where
  le : i ≤ e
  sz : e ≤ s.size
  all : ∀ k, i ≤ k → k < e → p (bt s k) = true
  stop : e < s.size → p (bt s e) = false
theorem run_one {p : Int → Bool} {s : ByteArray} {i e f : Nat} (h : Run p s i e) (k : Run p s i f) : e = f := by
  rcases Nat.lt_trichotomy e f with q | q | q
  · have a := k.all e h.le q
    have b := h.stop (Nat.lt_of_lt_of_le q k.sz)
    rw [a] at b; cases b
  · exact q
  · have a := h.all f k.le q
    have b := k.stop (Nat.lt_of_lt_of_le q h.sz)
    rw [a] at b; cases b
def runG (p : Int → Bool) (s : ByteArray) : Nat → Nat → Nat
  | 0, i => i
  | f + 1, i => bif p (bt s i) then runG p s f (i + 1) else i
def runE (p : Int → Bool) (s : ByteArray) (i : Nat) : Nat := runG p s (s.size - i) i
theorem runG_is (p : Int → Bool) (s : ByteArray) : ∀ (f i : Nat), i + f = s.size → Run p s i (runG p s f i)
  | 0, i, h => ⟨Nat.le_refl _, by show i ≤ _; omega, fun k a b => absurd a (by have : runG p s 0 i = i := rfl; omega), fun h' => by have : runG p s 0 i = i := rfl; omega⟩
  | f + 1, i, h => by
    cases q : p (bt s i) with
    | false =>
      have e : runG p s (f + 1) i = i := by unfold runG; rw [q]; rfl
      rw [e]
      exact ⟨Nat.le_refl _, by omega, fun k a b => by omega, fun _ => q⟩
    | true =>
      have e : runG p s (f + 1) i = runG p s f (i + 1) := by
        conv => lhs; unfold runG
        rw [q]; rfl
      rw [e]
      have r := runG_is p s f (i + 1) (by omega)
      refine ⟨by have := r.le; omega, r.sz, fun k a b => ?_, r.stop⟩
      by_cases c : k = i
      · rw [c]; exact q
      · exact r.all k (by omega) b
theorem runE_is (p : Int → Bool) (s : ByteArray) {i : Nat} (h : i ≤ s.size) : Run p s i (runE p s i) := runG_is p s _ _ (by omega)
theorem run_eq {p : Int → Bool} {s : ByteArray} {i e : Nat} (h : Run p s i e) : runE p s i = e := run_one (runE_is p s (Nat.le_trans h.le h.sz)) h
theorem run_pos {p : Int → Bool} {s : ByteArray} {i e : Nat} (h : Run p s i e) (hi : i < s.size) (hp : p (bt s i) = true) : i < e := by
  have := h.le
  by_cases q : e = i
  · rw [q] at h
    have := h.stop hi
    rw [hp] at this; cases this
  · omega
/-- Where a number ends. -/
def numE (s : ByteArray) (i : Nat) : Nat :=
  let e := runE digI s i
  if e < s.size ∧ bt s e = 46 then (if e + 1 < runE digI s (e + 1) then runE digI s (e + 1) else e) else e
/-- The kind of what begins at an index, and where it ends; 0: blank; -1: it cannot stand here. -/
def tokE (s : ByteArray) (i : Nat) : Int × Nat :=
  if bt s i = 32 ∨ bt s i = 9 then (0, i + 1)
  else if bt s i = 10 then (4, i + 1)
  else if bt s i = 35 then (0, runE nlI s i)
  else if ltrI (bt s i) = true then (if 20 < runE wordI s i - i then -1 else 1, runE wordI s i)
  else if digI (bt s i) = true then (2, numE s i)
  else if symI (bt s i) = true then (3, i + 1)
  else (-1, i + 1)
theorem numE_is {s : ByteArray} {i : Nat} (hi : i < s.size) (hd : digI (bt s i) = true) : i < numE s i ∧ numE s i ≤ s.size := by
  have r := runE_is digI s (Nat.le_of_lt hi)
  have a := run_pos r hi hd
  have b := r.sz
  unfold numE
  dsimp only
  split
  · rename_i h
    have r2 := runE_is digI s (i := runE digI s i + 1) (by omega)
    have := r2.sz
    split <;> omega
  · omega
theorem tokE_is {s : ByteArray} {i : Nat} (hi : i < s.size) : i < (tokE s i).2 ∧ (tokE s i).2 ≤ s.size := by
  unfold tokE
  split
  · exact ⟨by dsimp only; omega, by dsimp only; omega⟩
  split
  · exact ⟨by dsimp only; omega, by dsimp only; omega⟩
  split
  · rename_i h
    have r := runE_is nlI s (Nat.le_of_lt hi)
    have a := run_pos r hi (by rw [h]; decide)
    exact ⟨a, r.sz⟩
  split
  · rename_i h
    have r := runE_is wordI s (Nat.le_of_lt hi)
    have a := run_pos r hi (by unfold wordI; rw [h]; rfl)
    exact ⟨a, r.sz⟩
  split
  · rename_i h
    exact numE_is hi h
  split
  · exact ⟨by dsimp only; omega, by dsimp only; omega⟩
  · exact ⟨by dsimp only; omega, by dsimp only; omega⟩
/-- The text of a token. -/
def cutS (s : ByteArray) (i e : Nat) : ByteArray := s.extract i e
structure Res where
  toks : List Tok
  line : Int
  col : Int
  err : Int
def addT (s : ByteArray) (i : Nat) (k : Int) (e : Nat) (line col : Int) (out : List Tok) : List Tok :=
  if k = 0 then out else out ++ [(k, if k = 4 then ⟨#[]⟩ else cutS s i e, line, col)]
def toksF (s : ByteArray) : Nat → Nat → Int → Int → List Tok → Res
  | 0, _, line, col, out => ⟨out ++ [(5, ⟨#[]⟩, line, col)], 0, 0, 0⟩
  | f + 1, i, line, col, out =>
    if s.size ≤ i then ⟨out ++ [(5, ⟨#[]⟩, line, col)], 0, 0, 0⟩
    else if (tokE s i).1 < 0 then ⟨[], line, col, 7⟩
    else toksF s f (tokE s i).2 (if (tokE s i).1 = 4 then line + 1 else line) (if (tokE s i).1 = 4 then 1 else col + ((tokE s i).2 - i : Nat)) (addT s i (tokE s i).1 (tokE s i).2 line col out)
/-- More steps than are needed change nothing. -/
theorem toksF_more (s : ByteArray) : ∀ (f g i : Nat) (line col : Int) (out : List Tok), s.size - i ≤ f → s.size - i ≤ g → toksF s f i line col out = toksF s g i line col out
  | 0, g, i, line, col, out, hf, hg => by
    cases g with
    | zero => rfl
    | succ g => unfold toksF; rw [if_pos (by omega)]
  | f + 1, 0, i, line, col, out, hf, hg => by
    conv => lhs; unfold toksF
    rw [if_pos (by omega)]; rfl
  | f + 1, g + 1, i, line, col, out, hf, hg => by
    unfold toksF
    split
    · rfl
    · split
      · rfl
      · have h := tokE_is (s := s) (i := i) (by omega)
        exact toksF_more s f g _ _ _ _ (by omega) (by omega)
def toksA (s : ByteArray) (i : Nat) (line col : Int) (out : List Tok) : Res := toksF s (s.size - i) i line col out
theorem toksA_end {s : ByteArray} {i : Nat} (h : s.size ≤ i) (line col : Int) (out : List Tok) : toksA s i line col out = ⟨out ++ [(5, ⟨#[]⟩, line, col)], 0, 0, 0⟩ := by
  unfold toksA
  rw [show s.size - i = 0 by omega]
  rfl
theorem toksA_bad {s : ByteArray} {i : Nat} (h : i < s.size) (hk : (tokE s i).1 < 0) (line col : Int) (out : List Tok) : toksA s i line col out = ⟨[], line, col, 7⟩ := by
  unfold toksA
  obtain ⟨f, hf⟩ : ∃ f, s.size - i = f + 1 := ⟨s.size - i - 1, by omega⟩
  rw [hf]
  unfold toksF
  rw [if_neg (by omega), if_pos hk]
theorem toksA_step {s : ByteArray} {i : Nat} {k : Int} {e : Nat} (h : i < s.size) (ht : tokE s i = (k, e)) (hk : ¬ k < 0) (line col : Int) (out : List Tok) : toksA s i line col out = toksA s e (if k = 4 then line + 1 else line) (if k = 4 then 1 else col + (e - i : Nat)) (addT s i k e line col out) := by
  have hb := tokE_is h
  rw [ht] at hb
  conv => lhs; unfold toksA
  obtain ⟨f, hf⟩ : ∃ f, s.size - i = f + 1 := ⟨s.size - i - 1, by omega⟩
  rw [hf]
  conv => lhs; unfold toksF
  rw [if_neg (by omega), ht, if_neg hk]
  exact toksF_more s _ _ _ _ _ _ (by dsimp only at hb; omega) (Nat.le_refl _)
def toksOf (s : ByteArray) : Res := toksA s 0 1 1 []
/-- Between two rounds: what remains to be done gives the whole. -/
structure TI (s : ByteArray) (i : Nat) (line col : Int) (out : List Tok) : Prop where
  is : toksOf s = toksA s i line col out
  i1 : i ≤ s.size
  l0 : 1 ≤ line
  l1 : line ≤ (i : Int) + 1
  c0 : 1 ≤ col
  c1 : col ≤ (i : Int) + 1
  o1 : out.length ≤ i
theorem ti_zero (s : ByteArray) : TI s 0 1 1 [] := ⟨rfl, Nat.zero_le _, by omega, by omega, by omega, by omega, Nat.le_refl _⟩
theorem addT_len (s : ByteArray) (i : Nat) (k : Int) (e : Nat) (line col : Int) (out : List Tok) : (addT s i k e line col out).length ≤ out.length + 1 := by
  unfold addT; split <;> simp
theorem ti_step {s : ByteArray} {i : Nat} {k : Int} {e : Nat} {line col : Int} {out : List Tok} (t : TI s i line col out) (h : i < s.size) (ht : tokE s i = (k, e)) (hk : ¬ k < 0) : TI s e (if k = 4 then line + 1 else line) (if k = 4 then 1 else col + (e - i : Nat)) (addT s i k e line col out) := by
  have hb := tokE_is h
  rw [ht] at hb
  dsimp only at hb
  have a := addT_len s i k e line col out
  obtain ⟨x, i1, l0, l1, c0, c1, o1⟩ := t
  refine ⟨x.trans (toksA_step h ht hk line col out), hb.2, ?_, ?_, ?_, ?_, by omega⟩ <;> split <;> omega
/-- What Tokens answers. -/
def tokL (s : ByteArray) : List Tok := if 65536 < s.size then [] else (toksOf s).toks
def tokLine (s : ByteArray) : Int := if 65536 < s.size then 0 else (toksOf s).line
def tokCol (s : ByteArray) : Int := if 65536 < s.size then 0 else (toksOf s).col
def tokErr (s : ByteArray) : Int := if 65536 < s.size then 4 else (toksOf s).err
/-- A name. -/
def nameB (s : ByteArray) : Bool := decide (s.size ≤ 20) && decide (0 < s.size ∧ runE wordI s 0 = s.size) && ltrI (bt s 0)
end Go.Proofs.YtobmbbmompoliaaDoor
