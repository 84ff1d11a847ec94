/- Contracts: the program's reading of a line. -/
import Derived.Test.YtkcelhhhbbpbpaaDoorInE
namespace Go.Proofs.YtkcelhhhbbpbpaaDoor
open Go Go.Abs Go.RowKit
set_option linter.unusedVariables false
set_option linter.unusedSimpArgs false
theorem spl_cons (s : ByteArray) {c : UInt8} (h : c ∈ s.data.toList) : splB s ⟨[c].toArray⟩ = ⟨(s.data.toList.takeWhile (· != c)).toArray⟩ :: splB ⟨((s.data.toList.dropWhile (· != c)).drop 1).toArray⟩ ⟨[c].toArray⟩ := by
  have sp := (split_at h).1
  have hi : Lib.indexB s ⟨[c].toArray⟩ = (((s.data.toList.takeWhile (· != c)).length : Nat) : Int) := by
    unfold Lib.indexB
    show Lib.index s.data.toList [c] = _
    rw [index_one, if_pos h]
  have z1 : (ByteArray.mk [c].toArray).size = 1 := rfl
  have e1 : s.extract ((s.data.toList.takeWhile (· != c)).length + (ByteArray.mk [c].toArray).size) s.size = ⟨((s.data.toList.dropWhile (· != c)).drop 1).toArray⟩ := by
    apply ext_list
    rw [ex_list, Lib.size_eq s, List.take_length, z1]
    show s.data.toList.drop _ = (s.data.toList.dropWhile (· != c)).drop 1
    generalize s.data.toList.takeWhile (· != c) = T at *
    generalize (s.data.toList.dropWhile (· != c)).drop 1 = D at *
    rw [sp, show T ++ c :: D = (T ++ [c]) ++ D by simp, show T.length + 1 = (T ++ [c]).length by simp, List.drop_left]
  have e2 : s.extract 0 ((s.data.toList.takeWhile (· != c)).length + 0) = ⟨(s.data.toList.takeWhile (· != c)).toArray⟩ := by
    apply ext_list
    rw [ex_list, Nat.add_zero]
    show s.data.toList.take _ = s.data.toList.takeWhile (· != c)
    generalize s.data.toList.takeWhile (· != c) = T at *
    rw [sp, List.take_left]
  unfold splB
  rw [Lib.countB_hit _ _ _ (by rw [z1]; omega) hi, e1, Nat.add_comm 1, Lib.splitB_hit _ _ _ _ _ hi, e1, e2]
theorem spl_app (a b : List UInt8) {c : UInt8} (h : c ∉ a) : splB ⟨(a ++ c :: b).toArray⟩ ⟨[c].toArray⟩ = ⟨a.toArray⟩ :: splB ⟨b.toArray⟩ ⟨[c].toArray⟩ := by
  have w := while_at (c := c) b h
  rw [spl_cons ⟨(a ++ c :: b).toArray⟩ (c := c) (by simp)]
  show ByteArray.mk ((a ++ c :: b).takeWhile (· != c)).toArray :: splB ⟨(((a ++ c :: b).dropWhile (· != c)).drop 1).toArray⟩ _ = _
  rw [w.1, w.2]
theorem spl_end (a : List UInt8) {c : UInt8} (h : c ∉ a) : splB ⟨a.toArray⟩ ⟨[c].toArray⟩ = [⟨a.toArray⟩] := spl_one (t := []) ⟨a.toArray⟩ h
/-- What the first piece is, and the others. -/
theorem spl_ways (s : ByteArray) (c : UInt8) : (c ∉ s.data.toList ∧ splB s ⟨[c].toArray⟩ = [s]) ∨ (∃ a b, c ∉ a ∧ s.data.toList = a ++ c :: b ∧ splB s ⟨[c].toArray⟩ = ⟨a.toArray⟩ :: splB ⟨b.toArray⟩ ⟨[c].toArray⟩) := by
  by_cases h : c ∈ s.data.toList
  · exact .inr ⟨_, _, (split_at h).2, (split_at h).1, spl_cons s h⟩
  · exact .inl ⟨h, spl_one (t := []) s h⟩
theorem spl_ne (s : ByteArray) (c : UInt8) : 1 ≤ (splB s ⟨[c].toArray⟩).length := by
  rcases spl_ways s c with ⟨_, e⟩ | ⟨a, b, _, _, e⟩ <;> rw [e] <;> simp
def idxV : List UInt8 := [105, 110, 100, 101, 120]
def errV : List UInt8 := [101, 114, 114, 111, 114]
/-- Two pieces, the first one a word. -/
theorem two_idx (x : List UInt8) : (∃ u, splB ⟨x.toArray⟩ ⟨[32].toArray⟩ = [⟨idxV.toArray⟩, u] ∧ idxL x = numL u.data.toList) ∨ (idxL x = none ∧ ∀ u, splB ⟨x.toArray⟩ ⟨[32].toArray⟩ ≠ [⟨idxV.toArray⟩, u]) := by
  by_cases h : ∃ u, splB ⟨x.toArray⟩ ⟨[32].toArray⟩ = [⟨idxV.toArray⟩, u]
  · obtain ⟨u, hu⟩ := h
    refine .inl ⟨u, hu, ?_⟩
    rcases spl_ways ⟨x.toArray⟩ 32 with ⟨_, e⟩ | ⟨a, b, ha, hx, e⟩
    · rw [e] at hu; simp at hu
    · rw [e] at hu
      obtain ⟨e1, e2⟩ := List.cons.inj hu
      have e1 : a = idxV := by simpa using e1
      rcases spl_ways ⟨b.toArray⟩ 32 with ⟨_, e3⟩ | ⟨a', b', _, _, e3⟩
      · rw [e3] at e2
        have : u = ⟨b.toArray⟩ := by simpa using e2.symm
        subst this e1
        have hx : x = idxW ++ b := hx
        unfold idxL
        rw [hx, pre_app]
        rfl
      · rw [e3] at e2
        have l1 := congrArg List.length e2
        have l2 := spl_ne ⟨b'.toArray⟩ 32
        rw [List.length_cons] at l1
        have l3 : [u].length = 1 := rfl
        omega
  · refine .inr ⟨?_, fun u hu => h ⟨u, hu⟩⟩
    cases hk : idxL x with
    | none => rfl
    | some k =>
      obtain ⟨hx, _⟩ := idxL_some hk
      refine absurd ⟨⟨(textL k).toArray⟩, ?_⟩ h
      rw [hx]
      show splB ⟨(idxV ++ 32 :: textL k).toArray⟩ _ = _
      rw [spl_app _ _ (by decide), spl_end _ (text_no _ (by decide))]
/-- Three pieces, the first one a word. -/
theorem three_err (x : List UInt8) : (∃ u v, splB ⟨x.toArray⟩ ⟨[32].toArray⟩ = [⟨errV.toArray⟩, u, v] ∧ entL x = (numL u.data.toList).bind fun a => (numL v.data.toList).bind fun b => some (a, b)) ∨ (entL x = none ∧ ∀ u v, splB ⟨x.toArray⟩ ⟨[32].toArray⟩ ≠ [⟨errV.toArray⟩, u, v]) := by
  by_cases h : ∃ u v, splB ⟨x.toArray⟩ ⟨[32].toArray⟩ = [⟨errV.toArray⟩, u, v]
  · obtain ⟨u, v, hu⟩ := h
    refine .inl ⟨u, v, hu, ?_⟩
    rcases spl_ways ⟨x.toArray⟩ 32 with ⟨_, e⟩ | ⟨a, b, ha, hx, e⟩
    · rw [e] at hu; simp at hu
    · rw [e] at hu
      obtain ⟨e1, e2⟩ := List.cons.inj hu
      have e1 : a = errV := by simpa using e1
      rcases spl_ways ⟨b.toArray⟩ 32 with ⟨_, e3⟩ | ⟨a', b', ha', hb, e3⟩
      · rw [e3] at e2; simp at e2
      · rw [e3] at e2
        obtain ⟨e4, e5⟩ := List.cons.inj e2
        rcases spl_ways ⟨b'.toArray⟩ 32 with ⟨_, e6⟩ | ⟨a2, b2, _, _, e6⟩
        · rw [e6] at e5
          have e5 : v = ⟨b'.toArray⟩ := by simpa using e5.symm
          subst e5 e1
          rw [← e4]
          have hb : b = a' ++ 32 :: b' := hb
          have hx : x = errW ++ b := hx
          have w := while_at (c := 32) b' ha'
          unfold entL
          rw [hx, pre_app]
          show two2 b = _
          unfold two2
          rw [hb, if_pos (by simp), w.1, w.2]
        · rw [e6] at e5
          have l1 := congrArg List.length e5
          have l2 := spl_ne ⟨b2.toArray⟩ 32
          rw [List.length_cons] at l1
          have l3 : [v].length = 1 := rfl
          omega
  · refine .inr ⟨?_, fun u v hu => h ⟨u, v, hu⟩⟩
    cases hk : entL x with
    | none => rfl
    | some e =>
      obtain ⟨hx, _⟩ := entL_some hk
      refine absurd ⟨⟨(textL e.1).toArray⟩, ⟨(textL e.2).toArray⟩, ?_⟩ h
      have hx : x = errV ++ 32 :: (textL e.1 ++ 32 :: textL e.2) := by rw [hx]; unfold entT errW errV; simp
      rw [hx, spl_app _ _ (by decide), spl_app _ _ (text_no _ (by decide)), spl_end _ (text_no _ (by decide))]
/-- A line, as the program reads it. -/
def ln1 (L : List UInt8) : Option (List Int) := if Lib.hasSuffix L [10] = true then (idxL (Lib.trimSuffix L [10])).map fun n => [n] else none
def ln2 (L : List UInt8) : Option (List Int) := if Lib.hasSuffix L [10] = true then (entL (Lib.trimSuffix L [10])).map fun e => [e.1, e.2] else none
theorem s_Ln : Sound Tryd.prog VT (ΓLn tsB sufB splB nvP noP) :=
  Sound.cons (by kernel_rfl) (fun args p v h hp => by split at h <;> cases h; exact c_cutSuffix st_vt _ _ hp.1 (by have := hp.2; omega))
  (Sound.rcons (by kernel_rfl) (fun ads p rds h hp => by split at h <;> cases h; exact r_split (fun _ h => h.1) _ _ (sl_size hp.1.1) hp.2)
  (Sound.cons (by kernel_rfl) (fun args p v h hp => by split at h <;> cases h; exact c_number _ hp) Sound.nil))
theorem trim_sl {s q : ByteArray} (h : SL s) : SL (tsB s q) := by
  unfold SL at h
  show (Lib.trimSuffix s.data.toList q.data.toList).length ≤ 4000
  unfold Lib.trimSuffix
  split
  · rw [List.length_take]; omega
  · exact h
theorem piece_sl {s : ByteArray} {c : UInt8} (h : SL s) : ∀ x ∈ splB s ⟨[c].toArray⟩, SL x := by
  suffices ∀ (n : Nat) (s : ByteArray), s.data.toList.length ≤ n → ∀ x ∈ splB s ⟨[c].toArray⟩, x.data.toList.length ≤ s.data.toList.length by
    intro x hx
    unfold SL at h ⊢
    have := this _ s (Nat.le_refl _) x hx
    omega
  intro n
  induction n with
  | zero =>
    intro s hs x hx
    rcases spl_ways s c with ⟨_, e⟩ | ⟨a, b, _, hl, e⟩
    · rw [e] at hx
      rw [List.mem_singleton.mp hx]
      exact Nat.le_refl _
    · rw [hl, List.length_append, List.length_cons] at hs; omega
  | succ n ih =>
    intro s hs x hx
    rcases spl_ways s c with ⟨_, e⟩ | ⟨a, b, _, hl, e⟩
    · rw [e] at hx
      rw [List.mem_singleton.mp hx]
      exact Nat.le_refl _
    · rw [e] at hx
      rw [hl, List.length_append, List.length_cons] at hs ⊢
      rcases List.mem_cons.mp hx with rfl | hx
      · show a.length ≤ _; omega
      · have := ih ⟨b.toArray⟩ (by show b.length ≤ n; omega) x hx
        have : x.data.toList.length ≤ b.length := this
        omega
theorem r_line1 (s : ByteArray) (h : SL s) : RAns Tryd.prog VT 21 [.one (.v (.string s)), .one (.v (.string ⟨idxV.toArray⟩)), .one (.v (num 1))] [.one (.r 3 (.int .i64) ((ln1 s.data.toList).getD [])), .one (.v (.bool (ln1 s.data.toList).isSome))] := by
  refine rfn_by st_vt s_Ln (vc_line s ⟨idxV.toArray⟩ 1 tsB sufB splB nvP noP _ _) ?_
  refine ⟨⟨h, by decide⟩, ⟨⟨trim_sl h, by decide⟩, by decide⟩, ?_⟩
  have no : ln1 s.data.toList = none → [] = (ln1 s.data.toList).getD [] ∧ Value.bool false = Value.bool (ln1 s.data.toList).isSome ∧ True := fun e => by rw [e]; exact ⟨rfl, rfl, trivial⟩
  have psl := piece_sl (c := 32) (trim_sl (q := ByteArray.mk #[10]) h)
  cases hs : sufB s (ByteArray.mk #[10]) with
  | false =>
    have hs : Lib.hasSuffix s.data.toList [10] = false := hs
    exact bT rfl (no (by unfold ln1; rw [if_neg (by rw [hs]; decide)]))
  | true =>
    have hs : Lib.hasSuffix s.data.toList [10] = true := hs
    have e1 : ln1 s.data.toList = (idxL (Lib.trimSuffix s.data.toList [10])).map fun n => [n] := by unfold ln1; rw [if_pos hs]
    have ex : tsB s (ByteArray.mk #[10]) = ⟨(Lib.trimSuffix s.data.toList [10]).toArray⟩ := rfl
    rw [e1] at no ⊢
    rw [ex] at psl ⊢
    generalize Lib.trimSuffix s.data.toList [10] = x at *
    rw [show (ByteArray.mk #[32]) = ⟨[32].toArray⟩ from rfl]
    refine bF rfl ?_
    rcases two_idx x with ⟨u, hu, hn⟩ | ⟨hn, hno⟩
    · rw [hn] at no ⊢
      rw [hu] at psl ⊢
      have su := psl u (by simp)
      refine bF (by kernel_rfl) (bT (by kernel_rfl) (bT (by kernel_rfl) (bF (by show (!(ByteArray.toList ⟨idxV.toArray⟩ == ByteArray.toList ⟨idxV.toArray⟩)) = false; rw [beq_self_eq_true]; rfl) (bT (by kernel_rfl) (bT (by kernel_rfl) (bT (by kernel_rfl) (bT (by kernel_rfl) ⟨su, ?_⟩)))))))
      show bcase (!noP u) _ _
      cases hnu : numL u.data.toList with
      | none =>
        rw [hnu] at no
        exact bT (by unfold noP; rw [hnu]; rfl) (no rfl)
      | some n =>
        obtain ⟨g1, g2, g3⟩ := numL_get hnu
        refine bF (by rw [g3]; rfl) (bF (by kernel_rfl) ⟨rfl, ?_, rfl, trivial⟩)
        show [nvP u] = _
        rw [g1]
        rfl
    · rw [hn] at no ⊢
      have no' := no rfl
      generalize splB ⟨x.toArray⟩ ⟨[32].toArray⟩ = X at *
      refine bcase_iff.mpr ⟨fun q => no', fun q => ?_⟩
      have q : (X.length : Int) = 2 := by simpa [wrap_in] using q
      match X, q with
      | [a, u], _ =>
        refine bT (by kernel_rfl) (bT (by kernel_rfl) (bT ?_ no'))
        show (!(a.toList == ByteArray.toList ⟨idxV.toArray⟩)) = true
        rw [ByteArray.toList_eq, ByteArray.toList_eq]
        have : a.data.toList ≠ idxV := fun e => hno u (by rw [show a = ⟨idxV.toArray⟩ from ext_list e])
        simpa using this
theorem r_line2 (s : ByteArray) (h : SL s) : RAns Tryd.prog VT 21 [.one (.v (.string s)), .one (.v (.string ⟨errV.toArray⟩)), .one (.v (num 2))] [.one (.r 3 (.int .i64) ((ln2 s.data.toList).getD [])), .one (.v (.bool (ln2 s.data.toList).isSome))] := by
  refine rfn_by st_vt s_Ln (vc_line s ⟨errV.toArray⟩ 2 tsB sufB splB nvP noP _ _) ?_
  refine ⟨⟨h, by decide⟩, ⟨⟨trim_sl h, by decide⟩, by decide⟩, ?_⟩
  have no : ln2 s.data.toList = none → [] = (ln2 s.data.toList).getD [] ∧ Value.bool false = Value.bool (ln2 s.data.toList).isSome ∧ True := fun e => by rw [e]; exact ⟨rfl, rfl, trivial⟩
  have psl := piece_sl (c := 32) (trim_sl (q := ByteArray.mk #[10]) h)
  cases hs : sufB s (ByteArray.mk #[10]) with
  | false =>
    have hs : Lib.hasSuffix s.data.toList [10] = false := hs
    exact bT rfl (no (by unfold ln2; rw [if_neg (by rw [hs]; decide)]))
  | true =>
    have hs : Lib.hasSuffix s.data.toList [10] = true := hs
    have e1 : ln2 s.data.toList = (entL (Lib.trimSuffix s.data.toList [10])).map fun e => [e.1, e.2] := by unfold ln2; rw [if_pos hs]
    have ex : tsB s (ByteArray.mk #[10]) = ⟨(Lib.trimSuffix s.data.toList [10]).toArray⟩ := rfl
    rw [e1] at no ⊢
    rw [ex] at psl ⊢
    generalize Lib.trimSuffix s.data.toList [10] = x at *
    rw [show (ByteArray.mk #[32]) = ⟨[32].toArray⟩ from rfl]
    refine bF rfl ?_
    rcases three_err x with ⟨u, v, hu, hn⟩ | ⟨hn, hno⟩
    · rw [hn] at no ⊢
      rw [hu] at psl ⊢
      have su := psl u (by simp)
      have sv := psl v (by simp)
      refine bF (by kernel_rfl) (bT (by kernel_rfl) (bT (by kernel_rfl) (bF (by show (!(ByteArray.toList ⟨errV.toArray⟩ == ByteArray.toList ⟨errV.toArray⟩)) = false; rw [beq_self_eq_true]; rfl) (bT (by kernel_rfl) (bT (by kernel_rfl) (bT (by kernel_rfl) (bT (by kernel_rfl) ⟨su, ?_⟩)))))))
      show bcase (!noP u) _ _
      cases hnu : numL u.data.toList with
      | none =>
        rw [hnu] at no
        exact bT (by unfold noP; rw [hnu]; rfl) (no rfl)
      | some n =>
        obtain ⟨g1, g2, g3⟩ := numL_get hnu
        rw [hnu] at no
        refine bF (by rw [g3]; rfl) (bT (by kernel_rfl) (bT (by kernel_rfl) (bT (by kernel_rfl) ⟨sv, ?_⟩)))
        show bcase (!noP v) _ _
        cases hnv : numL v.data.toList with
        | none =>
          rw [hnv] at no
          exact bT (by unfold noP; rw [hnv]; rfl) (no rfl)
        | some m =>
          obtain ⟨k1, k2, k3⟩ := numL_get hnv
          refine bF (by rw [k3]; rfl) ⟨rfl, bF (by kernel_rfl) ⟨rfl, ?_, rfl, trivial⟩⟩
          show [nvP u, nvP v] = _
          rw [g1, k1]
          rfl
    · rw [hn] at no ⊢
      have no' := no rfl
      generalize splB ⟨x.toArray⟩ ⟨[32].toArray⟩ = X at *
      refine bcase_iff.mpr ⟨fun q => no', fun q => ?_⟩
      have q : (X.length : Int) = 3 := by simpa [wrap_in] using q
      match X, q with
      | [a, u, v], _ =>
        refine bT (by kernel_rfl) (bT (by kernel_rfl) (bT ?_ no'))
        show (!(a.toList == ByteArray.toList ⟨errV.toArray⟩)) = true
        rw [ByteArray.toList_eq, ByteArray.toList_eq]
        have : a.data.toList ≠ errV := fun e => hno u v (by rw [show a = ⟨errV.toArray⟩ from ext_list e])
        simpa using this
end Go.Proofs.YtkcelhhhbbpbpaaDoor
