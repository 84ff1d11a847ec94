/- Cutting a text at the first of a byte, in plain words. -/
import Derived.Test.YtkcelhhhbbpbpaaDoorBase
import Derived.Lib.IndexMore
namespace Go.Proofs.YtkcelhhhbbpbpaaDoor
open Go
set_option linter.unusedVariables false
set_option linter.unusedSimpArgs false
theorem index_one (c : UInt8) : ∀ l : List UInt8, Lib.index l [c] = if c ∈ l then ((l.takeWhile (· != c)).length : Int) else -1
  | [] => rfl
  | b :: l => by
    unfold Lib.index
    rw [index_one c l]
    by_cases e : c = b
    · subst e
      simp [List.isPrefixOf]
    · have nb : (c == b) = false := beq_eq_false_iff_ne.mpr e
      have nb' : (b != c) = true := by simpa using fun h : b = c => e h.symm
      by_cases m : c ∈ l
      · simp [List.isPrefixOf, nb, m, nb', List.takeWhile_cons]
      · simp [List.isPrefixOf, nb, m, e]
theorem take_while_len (p : UInt8 → Bool) : ∀ l : List UInt8, l.take (l.takeWhile p).length = l.takeWhile p ∧ l.drop (l.takeWhile p).length = l.dropWhile p
  | [] => ⟨rfl, rfl⟩
  | b :: l => by
    have ih := take_while_len p l
    by_cases h : p b = true
    · simp [List.takeWhile_cons, List.dropWhile_cons, h, ih.1, ih.2]
    · simp [List.takeWhile_cons, List.dropWhile_cons, h]
theorem take_while_all {c : UInt8} : ∀ {l : List UInt8}, c ∉ l → l.takeWhile (· != c) = l
  | [], _ => rfl
  | b :: l, h => by
    have hb : (b != c) = true := by simpa using fun e : b = c => h (by simp [e])
    have ih := take_while_all (c := c) (l := l) (fun m => h (List.mem_cons_of_mem _ m))
    simp only [List.takeWhile_cons, hb, if_true, ih]
/-- A cut falls at the first. -/
theorem cut_first (c : UInt8) (l : List UInt8) : Lib.cut l [c] = (l.takeWhile (· != c), (l.dropWhile (· != c)).drop 1, decide (c ∈ l)) := by
  unfold Lib.cut
  rw [index_one]
  by_cases m : c ∈ l
  · obtain ⟨a, b⟩ := take_while_len (· != c) l
    rw [if_pos m, if_pos (by omega), decide_eq_true m, ← b]
    simp [a]
  · have e := take_while_all m
    obtain ⟨a, b⟩ := take_while_len (· != c) l
    rw [if_neg m, if_neg (by decide), decide_eq_false m, ← b, e]
    simp
end Go.Proofs.YtkcelhhhbbpbpaaDoor
