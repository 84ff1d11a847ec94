/- Contracts: the texts of instruments; whether two are equal. -/
import Derived.Test.YtkcelhhhbbpbpaaDoorInD
namespace Go.Proofs.YtkcelhhhbbpbpaaDoor
open Go Go.Abs Go.RowKit
set_option linter.unusedVariables false
set_option linter.unusedSimpArgs false
def itB (k : Int) (xs : List (Int × Int)) : ByteArray := if Valid18 k xs then ⟨(insT k xs).toArray⟩ else ⟨#[]⟩
theorem get_fits {k : Int} {xs : List (Int × Int)} (h : Valid18 k xs) {i : Nat} (hi : i < xs.length) : Fits2 (xs.getD i (0, 0)) := by
  refine (valid_fits h).2 _ ?_
  rw [List.getD_eq_getElem?_getD, List.getElem?_eq_getElem hi, Option.getD_some]
  exact List.getElem_mem hi
theorem insB_size {k : Int} {xs : List (Int × Int)} (h : Valid18 k xs) (i : Nat) : (insB k xs i).size ≤ 3000 := by
  obtain ⟨f1, f2⟩ := valid_fits h
  have := insT_len (k := k) (t := xs.take i) f1 (fun e he => f2 e (List.mem_of_mem_take he))
  have h40 := h.2.2.1
  unfold insB
  rw [mkz]
  have : (xs.take i).length ≤ xs.length := by rw [List.length_take]; omega
  omega
theorem textB_len {n : Int} (h : n.natAbs ≤ 1099511627776) : (textB n).size ≤ 31 := by
  unfold textB
  rw [mkz]
  exact textL_len h
theorem it_step {k : Int} {xs : List (Int × Int)} {i : Nat} (hv : Valid18 k xs) (hi : i < xs.length) {a b : ByteArray} (ha : a = textB (xs.getD i (0, 0)).1) (hb : b = textB (xs.getD i (0, 0)).2) {P1 P2 P3 P4 P5 P6 : Prop} (p1 : P1) (p2 : P2) (p3 : P3) (p4 : P4) (p5 : P5) (p6 : P6) :
    bcase (tooLong (ByteArray.mk #[101, 114, 114, 111, 114, 32]) a) False (bcase (tooLong (ByteArray.mk #[101, 114, 114, 111, 114, 32] ++ a) (ByteArray.mk #[32])) False (bcase (tooLong (ByteArray.mk #[101, 114, 114, 111, 114, 32] ++ a ++ ByteArray.mk #[32]) b) False
      (bcase (tooLong (ByteArray.mk #[101, 114, 114, 111, 114, 32] ++ a ++ ByteArray.mk #[32] ++ b) (ByteArray.mk #[10])) False (bcase (tooLong (insB k xs i) (ByteArray.mk #[101, 114, 114, 111, 114, 32] ++ a ++ ByteArray.mk #[32] ++ b ++ ByteArray.mk #[10])) False
        (∃ (s_1 : Nat), (P1 ∧ insB k xs i ++ (ByteArray.mk #[101, 114, 114, 111, 114, 32] ++ a ++ ByteArray.mk #[32] ++ b ++ ByteArray.mk #[10]) = insB k xs s_1 ∧ P2 ∧ P3 ∧ IntKind.i64.wrap ((i : Int) + 1) = (s_1 : Int) ∧ P4 ∧ P5 ∧ P6 ∧ True) ∧ s_1.le xs.length ∧ xs.length - s_1 < xs.length - i))))) := by
  obtain ⟨f1, f2⟩ := get_fits hv hi
  have l1 := textB_len f1
  have l2 := textB_len f2
  have l3 := insB_size hv i
  have h40 := hv.2.2.1
  have st := insB_step (k := k) hi
  subst ha hb
  have s1 : (ByteArray.mk #[101, 114, 114, 111, 114, 32]).size = 6 := rfl
  have s2 : (ByteArray.mk #[32]).size = 1 := rfl
  have s3 : (ByteArray.mk #[10]).size = 1 := rfl
  refine bF (not_long (by omega)) (bF (not_long (by rw [ByteArray.size_append]; omega)) (bF (not_long (by rw [ByteArray.size_append, ByteArray.size_append]; omega)) (bF (not_long (by rw [ByteArray.size_append, ByteArray.size_append, ByteArray.size_append]; omega)) (bF (not_long (by rw [ByteArray.size_append, ByteArray.size_append, ByteArray.size_append, ByteArray.size_append]; omega)) ?_))))
  exact ⟨i + 1, ⟨p1, st, p2, p3, by rw [wrap_in (by omega)]; rfl, p4, p5, p6, trivial⟩, by show i + 1 ≤ _; omega, by omega⟩
theorem r_insText (k : Int) (xs : List (Int × Int)) : RAns Tryd.prog VT 7 [insA k xs] [.one (.v (.string (itB k xs))), .one (.v (num (pick (Valid18 k xs) 0 1)))] := by
  refine rfn_by st_vt (Sound.rcons (by kernel_rfl) (fun ads p rds h hp => by split at h <;> cases h; exact r_valid _ _)
    (Sound.cons (by kernel_rfl) (fun args p v h hp => by split at h <;> cases h; exact up_vt (c_text _)) Sound.nil)) (vc_insText k xs vldB okText (fun n => pick (Fit n) 0 5) (itB k xs) (pick (Valid18 k xs) 0 1)) ?_
  refine tkE ⟨trivial, bcase_iff.mpr ⟨fun q => ?_, fun q => ?_⟩⟩
  · have q : ¬ Valid18 k xs := by
      have : vldB k xs = false := by simpa using q
      exact of_decide_eq_false this
    unfold itB
    rw [if_neg q, pick_no q]
    exact ⟨rfl, rfl, trivial⟩
  · have q : Valid18 k xs := by
      have : vldB k xs = true := by simpa using q
      exact of_decide_eq_true this
    obtain ⟨f1, f2⟩ := valid_fits q
    obtain ⟨e1, e2⟩ := okText_fit f1
    have l1 := textB_len f1
    have s1 : (ByteArray.mk #[105, 110, 100, 101, 120, 32]).size = 6 := rfl
    have s3 : (ByteArray.mk #[10]).size = 1 := rfl
    have h40 := q.2.2.1
    rw [e1]
    refine ⟨trivial, bF (not_long (by omega)) (bF (not_long (by rw [ByteArray.size_append]; omega)) ⟨0, ⟨e2, insB_zero k xs, rfl, rfl, rfl, rfl, rfl, rfl, trivial⟩, Nat.zero_le _, fun i hi => ?_⟩)⟩
    have hi : i ≤ xs.length := hi
    refine bcase_iff.mpr ⟨fun c => ?_, fun c => ?_⟩
    · have c := of_decide_eq_true c
      have c : i < xs.length := by omega
      obtain ⟨g1, g2⟩ := get_fits q c
      obtain ⟨o1, o2⟩ := okText_fit g1
      obtain ⟨o3, o4⟩ := okText_fit g2
      refine bT (inY (by omega) (by omega)) (bT (bltY c) ⟨trivial, trivial, bF (by show (pick (Fit (xs.getD i (0, 0)).1) 0 5 != 0) = false; rw [o2]; rfl) (bF (by show (pick (Fit (xs.getD i (0, 0)).2) 0 5 != 0) = false; rw [o4]; rfl) ?_)⟩)
      exact it_step q c o1 o3 rfl rfl rfl rfl rfl rfl
    · have c := of_decide_eq_false c
      have e : i = xs.length := by omega
      unfold itB
      rw [if_pos q, pick_yes q]
      refine ⟨?_, rfl, trivial⟩
      unfold insB
      rw [e, List.take_length]
theorem step_left {a b c d e f : ByteArray} : a ++ b ++ c ++ d ++ e ++ f = a ++ (b ++ c ++ d ++ e ++ f) := by
  apply ext_list
  simp [List.append_assoc]
theorem r_rfText (k : Int) (xs : List (Int × Int)) (q : Valid18 k xs) : RAns Tryd.prog VT 9 [insA k xs] [.one (.v (.string (itB k xs)))] := by
  refine rfn_by st_vt (Sound.cons (by kernel_rfl) (fun args p v h hp => by split at h <;> cases h; exact c_r5text st_vt _ hp) Sound.nil) (vc_rfText k xs textB (itB k xs)) ?_
  obtain ⟨f1, f2⟩ := valid_fits q
  have l1 := textB_len f1
  have s1 : (ByteArray.mk #[105, 110, 100, 101, 120, 32]).size = 6 := rfl
  have s2 : (ByteArray.mk #[101, 114, 114, 111, 114, 32]).size = 6 := rfl
  have s4 : (ByteArray.mk #[32]).size = 1 := rfl
  have s3 : (ByteArray.mk #[10]).size = 1 := rfl
  have h40 := q.2.2.1
  have fit : ∀ {n : Int}, n.natAbs ≤ 1099511627776 → Fit n := fun h => by unfold Fit; omega
  refine ⟨fit f1, bF (not_long (by omega)) (bF (not_long (by rw [ByteArray.size_append]; omega)) ⟨0, ⟨insB_zero k xs, rfl, rfl, rfl, rfl, trivial⟩, Nat.zero_le _, fun i hi => ?_⟩)⟩
  have hi : i ≤ xs.length := hi
  refine bcase_iff.mpr ⟨fun c => ?_, fun c => ?_⟩
  · have c := of_decide_eq_true c
    have c : i < xs.length := by omega
    obtain ⟨g1, g2⟩ := get_fits q c
    have m1 := textB_len g1
    have m2 := textB_len g2
    have m3 := insB_size q i
    have st := insB_step (k := k) c
    rw [← step_left] at st
    have go : ∀ a b, a = textB (xs.getD i (0, 0)).1 → b = textB (xs.getD i (0, 0)).2 → bcase (tooLong (insB k xs i ++ ByteArray.mk #[101, 114, 114, 111, 114, 32]) a) False (bcase (tooLong (insB k xs i ++ ByteArray.mk #[101, 114, 114, 111, 114, 32] ++ a) (ByteArray.mk #[32])) False
        (bcase (inB (i : Int) xs.length) (bcase ((i : Int).toNat.blt xs.length) (Fit (xs.getD (i : Int).toNat (0, 0)).2 ∧ bcase (tooLong (insB k xs i ++ ByteArray.mk #[101, 114, 114, 111, 114, 32] ++ a ++ ByteArray.mk #[32]) b) False
          (bcase (tooLong (insB k xs i ++ ByteArray.mk #[101, 114, 114, 111, 114, 32] ++ a ++ ByteArray.mk #[32] ++ b) (ByteArray.mk #[10])) False
            (∃ (s_1 : Nat), (insB k xs i ++ ByteArray.mk #[101, 114, 114, 111, 114, 32] ++ a ++ ByteArray.mk #[32] ++ b ++ ByteArray.mk #[10] = insB k xs s_1 ∧ IntKind.i64.wrap ((i : Int) + 1) = (s_1 : Int) ∧ xs = xs ∧ k = k ∧ xs.length = xs.length ∧ True) ∧ s_1.le xs.length ∧ xs.length - s_1 < xs.length - i))) False) False)) := fun a b ha hb => by
      subst ha hb
      refine bF (not_long (by rw [ByteArray.size_append]; omega)) (bF (not_long (by rw [ByteArray.size_append, ByteArray.size_append]; omega)) (bT (inY (by omega) (by omega)) (bT (bltY c) ⟨fit g2, bF (not_long (by rw [ByteArray.size_append, ByteArray.size_append, ByteArray.size_append]; omega)) (bF (not_long (by rw [ByteArray.size_append, ByteArray.size_append, ByteArray.size_append, ByteArray.size_append]; omega)) ?_)⟩)))
      exact ⟨i + 1, ⟨st, by rw [wrap_in (by omega)]; rfl, rfl, rfl, rfl, trivial⟩, by show i + 1 ≤ _; omega, by omega⟩
    exact bF (not_long (by omega)) (bT (inY (by omega) (by omega)) (bT (bltY c) ⟨fit g1, go _ _ rfl rfl⟩))
  · have c := of_decide_eq_false c
    have e : i = xs.length := by omega
    unfold itB
    rw [if_pos q]
    refine ⟨?_, trivial⟩
    unfold insB
    rw [e, List.take_length]
section
variable {Φ : World → Prop} (hst : ∀ w w', Φ w → Below w.heap.size w w' → Φ w')
include hst
theorem r_same (k j : Int) (xs ys : List (Int × Int)) (hx : xs.length ≤ 1000000) : RAns Tryd.prog Φ 12 [insA k xs, insA j ys] [.one (.v (.bool (decide (k = j ∧ xs = ys))))] := by
  refine rfn_by hst Sound.nil (vc_same k j xs ys _) ?_
  have no : ¬ (k = j ∧ xs = ys) → Value.bool false = Value.bool (decide (k = j ∧ xs = ys)) ∧ True := fun h => ⟨by rw [decide_eq_false h], trivial⟩
  refine bcase_iff.mpr ⟨fun q => no fun h => by rw [h.1] at q; simp at q, fun q => bcase_iff.mpr ⟨fun q2 => no fun h => by rw [h.2] at q2; simp at q2, fun q2 => ?_⟩⟩
  have q : k = j := by simpa using q
  have q2 : (xs.length : Int) = ys.length := by simpa using q2
  have q2 : xs.length = ys.length := by omega
  refine ⟨0, ⟨rfl, rfl, rfl, rfl, rfl, rfl, rfl, trivial⟩, ⟨Nat.zero_le _, rfl⟩, fun i ⟨hi, ht⟩ => ?_⟩
  refine bcase_iff.mpr ⟨fun c => ?_, fun c => ?_⟩
  · have c := of_decide_eq_true c
    have c : i < xs.length := by omega
    refine bT (inY (by omega) (by omega)) (bT (bltY c) (bT (inY (by omega) (by omega)) (bT (bltY (by omega)) (bcase_iff.mpr ⟨fun d => no ?_, fun d => ?_⟩))))
    · rintro ⟨-, rfl⟩
      simp at d
    · have e : xs.getD i (0, 0) = ys.getD i (0, 0) := by
        have d : ((xs.getD i (0, 0)).1 == (ys.getD i (0, 0)).1 && ((xs.getD i (0, 0)).2 == (ys.getD i (0, 0)).2 && true)) = true := by simpa using d
        rw [Bool.and_eq_true, Bool.and_true, beq_iff_eq, beq_iff_eq] at d
        exact Prod.ext d.1 d.2
      exact ⟨i + 1, ⟨by rw [wrap_in (by omega)]; rfl, rfl, rfl, rfl, rfl, rfl, rfl, trivial⟩, ⟨by omega, by rw [take_snoc c, take_snoc (by omega), ht, e]⟩, by omega⟩
  · have c := of_decide_eq_false c
    have e : i = xs.length := by omega
    rw [e, List.take_length, q2, List.take_length] at ht
    exact ⟨by rw [decide_eq_true ⟨q, ht⟩], trivial⟩
end
end Go.Proofs.YtkcelhhhbbpbpaaDoor
