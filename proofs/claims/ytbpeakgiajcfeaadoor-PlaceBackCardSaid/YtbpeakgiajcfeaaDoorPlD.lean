/- Contracts: reading texts of points. -/
import Derived.Test.YtbpeakgiajcfeaaDoorPlC
namespace Go.Proofs.YtbpeakgiajcfeaaDoor
open Go Go.Abs Go.RowKit
set_option linter.unusedVariables false
set_option linter.unusedSimpArgs false
theorem rT_bd (D r : List UInt8) (mi : Bool) : (rT D r mi).1.natAbs ≤ 1099511627776 := by
  unfold rT
  split
  · decide
  · split
    · split
      · decide
      · split
        · decide
        · split
          · decide
          · split
            · decide
            · dsimp only
              split <;> omega
    · decide
theorem parV_bd (s : ByteArray) : (parV s).natAbs ≤ 1099511627776 := rT_bd _ _ _
/-- A number behind one of two endings. -/
def numG (l p m : List UInt8) : Int × Bool :=
  if Lib.hasSuffix l p = true then tailN (Lib.trimSuffix l p) 1 else if Lib.hasSuffix l m = true then tailN (Lib.trimSuffix l m) (-1) else (0, false)
def nuV (s p m : ByteArray) : Int := (numG s.data.toList p.data.toList m.data.toList).1
def nuO (s p m : ByteArray) : Bool := (numG s.data.toList p.data.toList m.data.toList).2
theorem num_tail (b : ByteArray) (sg : Int) (hsg : sg = 1 ∨ sg = -1) {K : Value → Prop} (hK : K (.tuple #[.int .i64 (tailN b.data.toList sg).1, .bool (tailN b.data.toList sg).2])) :
    bcase (parE b == 5)
      (True ∧ bcase (!miB b (ByteArray.mk #[45])) (K (.tuple #[.int .i64 (IntKind.i64.wrap (sg * 1099511627777)), .bool true]))
        (bcase (parE b == 0) (True ∧ K (.tuple #[.int .i64 (IntKind.i64.wrap (sg * parV b)), .bool (!miB b (ByteArray.mk #[45]))])) (K (.tuple #[.int .i64 (IntKind.i64.wrap (sg * parV b)), .bool false]))))
      (bcase (parE b == 0) (True ∧ K (.tuple #[.int .i64 (IntKind.i64.wrap (sg * parV b)), .bool (!miB b (ByteArray.mk #[45]))])) (K (.tuple #[.int .i64 (IntKind.i64.wrap (sg * parV b)), .bool false]))) := by
  have hb := parV_bd b
  have hn : miB b (ByteArray.mk #[45]) = neg b.data.toList := rfl
  have w1 : IntKind.i64.wrap (sg * 1099511627777) = sg * 1099511627777 := wrap_in (by rcases hsg with rfl | rfl <;> omega)
  have w2 : IntKind.i64.wrap (sg * parV b) = sg * parV b := wrap_in (by rcases hsg with rfl | rfl <;> omega)
  have hV : (parL b.data.toList).1 = parV b := rfl
  have hE : (parL b.data.toList).2 = parE b := rfl
  unfold tailN at hK
  rw [hV, hE] at hK
  rw [hn, w1, w2]
  have rest : ¬ (parE b = 5 ∧ neg b.data.toList = false) → bcase (parE b == 0) (True ∧ K (.tuple #[.int .i64 (sg * parV b), .bool (!neg b.data.toList)])) (K (.tuple #[.int .i64 (sg * parV b), .bool false])) := fun h => by
    rw [if_neg h] at hK
    refine bcase_iff.mpr ⟨fun c => ⟨trivial, ?_⟩, fun c => ?_⟩
    · rw [decide_eq_true (eq_of_beq c), Bool.true_and] at hK
      exact hK
    · rw [decide_eq_false (fun e => by rw [e] at c; simp at c), Bool.false_and] at hK
      exact hK
  refine bcase_iff.mpr ⟨fun c => ⟨trivial, ?_⟩, fun c => rest ?_⟩
  · cases hm : neg b.data.toList with
    | false =>
      rw [if_pos ⟨eq_of_beq c, hm⟩] at hK
      exact bT rfl hK
    | true =>
      have := rest (by rw [hm]; simp)
      rw [hm] at this
      exact bF rfl this
  · rintro ⟨e, -⟩
    rw [e] at c
    simp at c
section
variable {Φ : World → Prop} (hst : ∀ w w', Φ w → Below w.heap.size w w' → Φ w') (hΦ : ∀ w, Φ w → Vs w)
include hst hΦ
theorem s_Nu : Sound Tryd.prog Φ (ΓNu tsB sufB miB parV parE) :=
  Sound.cons (by kernel_rfl) (fun args pr v h hp => by split at h <;> cases h; exact c_cutSuffix hst _ _ hp.1 hp.2)
  (Sound.cons (by kernel_rfl) (fun args pr v h hp => by unfold sPar at h; split at h <;> cases h; exact c_parse5 hst hΦ _ hp)
  (Sound.cons (by kernel_rfl) (fun args pr v h hp => by
      split at h <;> cases h
      exact fun w _ => (Tryd.strings_HasPrefix _ _ w).mono (by rintro e w' ⟨rfl, rfl⟩; exact ⟨rfl, Below.refl _ _⟩)) Sound.nil))
theorem c_plNumber (s p m : ByteArray) (h : SL s) (hp : p.size ≤ 4000) (hm : m.size ≤ 4000) : Ans Tryd.prog Φ 20 [.string s, .string p, .string m] (.tuple #[.int .i64 (nuV s p m), .bool (nuO s p m)]) := by
  refine fn_by hst (s_Nu hst hΦ) (vc_plNumber s p m tsB sufB miB parV parE _) ?_
  have tl : ∀ q : ByteArray, SL (tsB s q) := fun q => by
    unfold SL at h
    show (Lib.trimSuffix s.data.toList q.data.toList).length ≤ 4000
    unfold Lib.trimSuffix
    split
    · rw [List.length_take]; omega
    · exact h
  unfold nuV nuO numG
  refine ⟨⟨h, hp⟩, bcase_iff.mpr ⟨fun c => ⟨⟨h, hm⟩, bcase_iff.mpr ⟨fun c2 => ?_, fun c2 => ⟨tl m, ?_⟩⟩⟩, fun c => ⟨tl p, ?_⟩⟩⟩
  · have c : Lib.hasSuffix s.data.toList p.data.toList = false := by simpa [sufB] using c
    have c2 : Lib.hasSuffix s.data.toList m.data.toList = false := by simpa [sufB] using c2
    rw [c, c2]
    rfl
  · have c : Lib.hasSuffix s.data.toList p.data.toList = false := by simpa [sufB] using c
    have c2 : Lib.hasSuffix s.data.toList m.data.toList = true := by simpa [sufB] using c2
    rw [c, c2]
    exact num_tail (tsB s m) (-1) (Or.inr rfl) (K := fun v => v = _) rfl
  · have c : Lib.hasSuffix s.data.toList p.data.toList = true := by simpa [sufB] using c
    rw [c]
    exact num_tail (tsB s p) 1 (Or.inl rfl) (K := fun v => v = _) rfl
def paB (s : ByteArray) : Int := (ptL s.data.toList).1
def pbB (s : ByteArray) : Int := (ptL s.data.toList).2.1
def peB (s : ByteArray) : Int := (ptL s.data.toList).2.2
theorem c_plParse (s : ByteArray) (h : SL s) : Ans Tryd.prog Φ 8 [.string s] (.tuple #[.agg #[.int .i64 (paB s), .int .i64 (pbB s)], .int .i64 (peB s)]) := by
  refine fn_by hst (Sound.cons (by kernel_rfl) (fun args pr v h hp => by
      split at h <;> cases h
      exact fun w hw => by
        obtain ⟨m, hm⟩ := hΦ w hw
        exact (Tryd.strings_Cut _ _ m w (sl_size hp.1) hm).mono (by rintro e w' ⟨rfl, n, rfl⟩; exact ⟨rfl, below_drewN (Below.refl _ _) n⟩))
    (Sound.cons (by kernel_rfl) (fun args pr v h hp => by split at h <;> cases h; exact c_plNumber hst hΦ _ _ _ hp.1 hp.2.1 hp.2.2) Sound.nil))
    (vc_plParse s nuV nuO cwB cpB coB _) ?_
  have e1 : cwB s (ByteArray.mk #[32]) = ⟨(s.data.toList.takeWhile (· != 32)).toArray⟩ := by unfold cwB; rw [show (ByteArray.mk #[32]).data.toList = [32] from rfl, cut_first]
  have e2 : cpB s (ByteArray.mk #[32]) = ⟨((s.data.toList.dropWhile (· != 32)).drop 1).toArray⟩ := by unfold cpB; rw [show (ByteArray.mk #[32]).data.toList = [32] from rfl, cut_first]
  have e3 : coB s (ByteArray.mk #[32]) = decide (32 ∈ s.data.toList) := by unfold coB; rw [show (ByteArray.mk #[32]).data.toList = [32] from rfl, cut_first]
  have h' := h
  unfold SL at h'
  have l1 : SL (cwB s (ByteArray.mk #[32])) := by
    rw [e1]
    show (s.data.toList.takeWhile (· != 32)).length ≤ 4000
    have := (List.takeWhile_sublist (· != 32) (l := s.data.toList)).length_le
    omega
  have l2 : SL (cpB s (ByteArray.mk #[32])) := by
    rw [e2]
    show ((s.data.toList.dropWhile (· != 32)).drop 1).length ≤ 4000
    have := (List.dropWhile_sublist (· != 32) (l := s.data.toList)).length_le
    rw [List.length_drop]
    omega
  have n1 : nuV (cwB s (ByteArray.mk #[32])) (ByteArray.mk #[78]) (ByteArray.mk #[83]) = (numN (s.data.toList.takeWhile (· != 32)) 78 83).1 := by rw [e1]; rfl
  have n2 : nuO (cwB s (ByteArray.mk #[32])) (ByteArray.mk #[78]) (ByteArray.mk #[83]) = (numN (s.data.toList.takeWhile (· != 32)) 78 83).2 := by rw [e1]; rfl
  have n3 : nuV (cpB s (ByteArray.mk #[32])) (ByteArray.mk #[69]) (ByteArray.mk #[87]) = (numN ((s.data.toList.dropWhile (· != 32)).drop 1) 69 87).1 := by rw [e2]; rfl
  have n4 : nuO (cpB s (ByteArray.mk #[32])) (ByteArray.mk #[69]) (ByteArray.mk #[87]) = (numN ((s.data.toList.dropWhile (· != 32)).drop 1) 69 87).2 := by rw [e2]; rfl
  unfold paB pbB peB ptL
  rw [n1, n2, n3, n4, e3]
  generalize numN (s.data.toList.takeWhile (· != 32)) 78 83 = x
  generalize numN ((s.data.toList.dropWhile (· != 32)).drop 1) 69 87 = y
  obtain ⟨x1, x2⟩ := x
  obtain ⟨y1, y2⟩ := y
  dsimp only
  by_cases c : 32 ∈ s.data.toList
  · rw [decide_eq_true c, if_neg (show ¬ ¬ 32 ∈ s.data.toList by simpa using c)]
    refine ⟨⟨h, by decide⟩, bF rfl ⟨⟨l1, by decide, by decide⟩, ⟨l2, by decide, by decide⟩, ?_⟩⟩
    cases x2 with
    | false =>
      rw [if_pos (Or.inl rfl)]
      exact bT rfl rfl
    | true =>
      refine bF rfl ?_
      cases y2 with
      | false =>
        rw [if_pos (Or.inr rfl)]
        exact bT rfl rfl
      | true =>
        rw [if_neg (by simp)]
        refine bF rfl ?_
        by_cases v : vPt x1 y1
        · rw [if_pos v]
          unfold vPt at v
          exact bT (decide_eq_true (by omega)) (bT (decide_eq_true (by omega)) (bT (decide_eq_true (by omega)) (bF (by rw [decide_eq_true (by omega)]; rfl) rfl)))
        · rw [if_neg v]
          refine bcase_iff.mpr ⟨fun c1 => bcase_iff.mpr ⟨fun c2 => bcase_iff.mpr ⟨fun c3 => bT ?_ rfl, fun _ => rfl⟩, fun _ => rfl⟩, fun _ => rfl⟩
          have c1 := of_decide_eq_true c1
          have c2 := of_decide_eq_true c2
          have c3 := of_decide_eq_true c3
          rw [decide_eq_false (by unfold vPt at v; omega)]; rfl
  · rw [decide_eq_false c, if_pos c]
    exact ⟨⟨h, by decide⟩, bT rfl rfl⟩
end
end Go.Proofs.YtbpeakgiajcfeaaDoor
