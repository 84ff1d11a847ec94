/- The law of tokens. -/
import Derived.Test.YtobmbbmompoliaaTkE
namespace Go.Proofs.Ytobmbbmompoliaa
open Go Go.Abs Go.RowKit
set_option linter.unusedVariables false
set_option linter.unusedSimpArgs false
theorem h_ix (c : Int) : Ans Try.prog Vs 51 [.string symS, .int .u8 c] (num (symIx c)) := by
  have h := (s_S 51 (.v sIndexByte) (by kernel_rfl)).2
  exact h [.string symS, .int .u8 c] True _ rfl trivial
theorem s_Lt1 : Sound Try.prog Vs (ΓLt1 tokL tokLine tokCol tokErr nameB) :=
  Sound.cons (by kernel_rfl) (fun args p v h _ => by split at h <;> cases h; exact c_awake)
  (Sound.rcons (by kernel_rfl) (fun ads p rds h _ => by unfold sTkC at h; split at h <;> cases h; exact c_dctokens st_vs h_ix _)
  (Sound.rcons (by kernel_rfl) (fun ads p rds h _ => by unfold sTkC at h; split at h <;> cases h; exact c_r1tokens st_vs _)
  (Sound.rcons (by kernel_rfl) (fun ads p rds h hp => by split at h <;> cases h; exact c_eqT st_vs _ _ hp)
  (Sound.cons (by kernel_rfl) (fun args p v h _ => by unfold sNm at h; split at h <;> cases h; exact c_dcname st_vs _)
  (Sound.cons (by kernel_rfl) (fun args p v h _ => by unfold sNm at h; split at h <;> cases h; exact c_r1name st_vs _) Sound.nil)))))
theorem toksF_len (s : ByteArray) : ∀ (f i : Nat) (line col : Int) (out : List Tok), (toksF s f i line col out).toks.length ≤ out.length + f + 1
  | 0, i, line, col, out => by unfold toksF; simp
  | f + 1, i, line, col, out => by
    unfold toksF
    split
    · simp
    · split
      · simp
      · have h := toksF_len s f (tokE s i).2 (if (tokE s i).1 = 4 then line + 1 else line) (if (tokE s i).1 = 4 then 1 else col + ((tokE s i).2 - i : Nat)) (addT s i (tokE s i).1 (tokE s i).2 line col out)
        have a := addT_len s i (tokE s i).1 (tokE s i).2 line col out
        omega
theorem tokL_len (s : ByteArray) : (tokL s).length ≤ 65537 := by
  unfold tokL
  split
  · exact Nat.zero_le _
  · have := toksF_len s (s.size - 0) 0 1 1 []
    unfold toksOf toksA
    simp at this ⊢
    omega
theorem tkz1 {α : Type} {x : List α} {p : List α → Prop} (h : p x) : 0 + x.length ≤ x.length ∧ ∀ z, z = List.take x.length x → p z := ⟨by omega, fun z hz => by rw [hz, List.take_length]; exact h⟩
theorem law_tokensR (s : ByteArray) : RAns Try.prog Vs 6 [oneV (.string s)] [oneV (.bool true)] := by
  refine rfn_by st_vs s_Lt1 (vc_lawtokens s _ _ _ _ _) ⟨trivial, ?_⟩
  have l := tokL_len s
  have eo : EqT (tokL s) (tokL s) := ⟨rfl, by omega⟩
  rw [show (tokErr s == tokErr s) = true by simp, bcase_true, show (tokLine s == tokLine s && (tokCol s == tokCol s && true)) = true by simp, bcase_true, show (nameB s == nameB s) = true by simp]
  refine bcase_iff.mpr ⟨fun _ => bcase_iff.mpr ⟨fun _ => ⟨rfl, trivial⟩, fun _ => bcase_iff.mpr ⟨fun _ => ⟨rfl, trivial⟩, fun _ => ?_⟩⟩, fun _ => bcase_iff.mpr ⟨fun _ => ⟨rfl, trivial⟩, fun _ => ?_⟩⟩
  all_goals exact ⟨trivial, trivial, tkz1 (tkz1 ⟨eo, trivial, trivial, rfl, trivial⟩)⟩
theorem law_tokens (s : ByteArray) : Ans Try.prog Vs 6 [.string s] (.bool true) := fun w hw => by
  refine (law_tokensR s w [.string s] [.string s] hw ⟨_, rfl, rfl⟩ ⟨rfl, trivial⟩).mono ?_
  rintro e w' ⟨hb, rvs, rcells, gs, he, hsh, hcd, _⟩
  refine ⟨?_, hb⟩
  cases rvs with
  | nil => exact hsh.elim
  | cons r rvs =>
    obtain ⟨cs, rfl, hsh⟩ := hsh
    cases rvs with
    | nil =>
      have : r = .bool true := hcd.1
      subst this
      exact he
    | cons _ _ => exact hsh.elim
end Go.Proofs.Ytobmbbmompoliaa
