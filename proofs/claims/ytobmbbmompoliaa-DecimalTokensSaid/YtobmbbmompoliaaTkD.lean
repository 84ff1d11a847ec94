/- Tokens: the reference's contracts; names; equal rows; the law. -/
import Derived.Test.YtobmbbmompoliaaTkW
namespace Go.Proofs.Ytobmbbmompoliaa
open Go Go.Abs Go.RowKit
set_option linter.unusedVariables false
set_option linter.unusedSimpArgs false
theorem sym_not : ∀ c : Fin 256, symI (c.val : Int) = true → ltrI (c.val : Int) = false ∧ digI (c.val : Int) = false ∧ (c.val : Int) ≠ 10 := by decide +kernel
theorem sym_no {c : Int} (h : 0 ≤ c ∧ c ≤ 255) (q : symI c = true) : ltrI c = false ∧ digI c = false ∧ c ≠ 10 := by
  obtain ⟨n, rfl⟩ := Int.eq_ofNat_of_zero_le h.1
  exact sym_not ⟨n, by omega⟩ q
theorem re_step {p : Int → Bool} {s : ByteArray} {a m : Nat} (I : Int) (hs : s.size ≤ 65536) (hm : RunI p s a m) (h : m < s.size) (c : p (bt s m) = true) :
    ∃ y : Nat, (s = s ∧ I = I ∧ IntKind.i64.wrap ((m : Int) + 1) = (y : Int) ∧ True) ∧ RunI p s a y ∧ s.size - y < s.size - m := by
  obtain ⟨m1, m2, m3⟩ := hm
  refine ⟨m + 1, ⟨rfl, rfl, ?_, trivial⟩, ⟨by omega, by omega, fun k h1 h2 => ?_⟩, by omega⟩
  · rw [wrap_in (by omega)]; omega
  · by_cases e : k = m
    · rw [e]; exact c
    · exact m3 k h1 (by omega)
theorem re_stop {p : Int → Bool} {s : ByteArray} {a m : Nat} (I : Int) (r : Run p s a m) : ∃ y : Nat, (s = s ∧ I = I ∧ (m : Int) = (runE p s a : Int) ∧ True) ∧ True := ⟨0, ⟨rfl, rfl, by rw [run_eq r], trivial⟩, trivial⟩
theorem re_no {p : Int → Bool} {s : ByteArray} {a m : Nat} (hm : RunI p s a m) (c : p (bt s m) = false) : Run p s a m := ⟨hm.le, hm.sz, hm.all, fun _ => c⟩
theorem re_end {p : Int → Bool} {s : ByteArray} {a m : Nat} (hm : RunI p s a m) (c : s.size ≤ m) : Run p s a m := ⟨hm.le, hm.sz, hm.all, fun h => by omega⟩
theorem run_zero (p : Int → Bool) {s : ByteArray} {a : Nat} (ha : a ≤ s.size) : RunI p s a a := ⟨Nat.le_refl _, ha, fun k h1 h2 => by omega⟩
/-- A loop over digits in the reference. -/
theorem loop_dig {s : ByteArray} {a : Nat} {x I : Int} (hs : s.size ≤ 65536) (hx : x = (a : Int)) (ha : a ≤ s.size) :
    ∃ n : Nat, (s = s ∧ I = I ∧ x = (n : Int) ∧ True) ∧ RunI digI s a n ∧ ∀ m : Nat, RunI digI s a m →
      bcase (decide ((m : Int) < (s.size : Int)))
        (bcase (inB (m : Int) s.size)
          (True ∧ bcase (digI ((s.get! (m : Int).toNat).toNat : Int))
            (∃ y : Nat, (s = s ∧ I = I ∧ IntKind.i64.wrap ((m : Int) + 1) = (y : Int) ∧ True) ∧ RunI digI s a y ∧ s.size - y < s.size - m)
            (∃ y : Nat, (s = s ∧ I = I ∧ (m : Int) = (runE digI s a : Int) ∧ True) ∧ True))
          False)
        (∃ y : Nat, (s = s ∧ I = I ∧ (m : Int) = (runE digI s a : Int) ∧ True) ∧ True) := by
  refine ⟨a, ⟨rfl, rfl, hx, trivial⟩, run_zero digI ha, fun m hm => bcase_iff.mpr ⟨fun q => ?_, fun q => re_stop I (re_end hm (by have := of_decide_eq_false q; omega))⟩⟩
  have q : m < s.size := by have := of_decide_eq_true q; omega
  rw [inB_nat q, bcase_true, Int.toNat_natCast m]
  exact ⟨trivial, bcase_iff.mpr ⟨fun c => re_step I hs hm q c, fun c => re_stop I (re_no hm c)⟩⟩
theorem eq_tup {a b c d : Int} (h : a = c) (k : b = d) : Value.tuple #[Value.int IntKind.i64 a, Value.int IntKind.i64 b] = pair (num c) (num d) := by rw [h, k]
theorem end_is {s : ByteArray} {i : Nat} {k : Int} {e : Nat} (h : tokE s i = (k, e)) : (k < 0 → endE s (i : Int) = i ∧ endK s (i : Int) = 0) ∧ (¬ k < 0 → endE s (i : Int) = e ∧ endK s (i : Int) = k) := by
  unfold endE endK
  rw [Int.toNat_natCast, h]
  exact ⟨fun q => ⟨if_pos q, if_pos q⟩, fun q => ⟨if_neg q, if_neg q⟩⟩
section
variable {Φ : World → Prop} (hst : ∀ w w', Φ w → Below w.heap.size w w' → Φ w')
include hst
theorem c_r1letter (c : Int) : Ans Try.prog Φ 36 [.int .u8 c] (.bool (ltrI c)) := by
  refine fn_by hst Sound.nil (vc_r1letter c _) ?_
  unfold ltrI
  simp only [bcase_iff, true_and, and_true, decide_eq_true_eq, decide_eq_false_iff_not, Bool.not_eq_true', Bool.not_eq_false', Bool.not_true, Bool.not_false, beq_iff_eq, beq_eq_false_iff_ne, bne_iff_ne, ne_eq, bne_eq_false_iff_eq, Decidable.not_not, ge_iff_le, gt_iff_lt, Bool.not_eq_true, Bool.and_eq_true, Bool.or_eq_true, forall_const, imp_false, implies_true, Bool.true_eq_false, Bool.false_eq_true, false_implies, true_implies, Int.not_lt, Int.not_le, Int.zero_sub]
  repeat' (first | intro _ | apply And.intro)
  all_goals (try (repeat' (first | exact rfl | apply eq_pair | apply eq_arc | apply eq_num | apply eq_dec | apply eq_no | apply eq_yes)))
  all_goals omega
theorem c_r1digit (c : Int) : Ans Try.prog Φ 37 [.int .u8 c] (.bool (digI c)) := by
  refine fn_by hst Sound.nil (vc_r1digit c _) ?_
  unfold digI
  simp only [bcase_iff, true_and, and_true, decide_eq_true_eq, decide_eq_false_iff_not, Bool.not_eq_true', Bool.not_eq_false', Bool.not_true, Bool.not_false, beq_iff_eq, beq_eq_false_iff_ne, bne_iff_ne, ne_eq, bne_eq_false_iff_eq, Decidable.not_not, ge_iff_le, gt_iff_lt, Bool.not_eq_true, Bool.and_eq_true, Bool.or_eq_true, forall_const, imp_false, implies_true, Bool.true_eq_false, Bool.false_eq_true, false_implies, true_implies, Int.not_lt, Int.not_le, Int.zero_sub]
  repeat' (first | intro _ | apply And.intro)
  all_goals (try (repeat' (first | exact rfl | apply eq_pair | apply eq_arc | apply eq_num | apply eq_dec | apply eq_no | apply eq_yes)))
  all_goals omega
theorem c_r1symbol (c : Int) : Ans Try.prog Φ 52 [.int .u8 c] (.bool (symI c)) := by
  refine fn_by hst Sound.nil (vc_r1symbol c _) ?_
  have key : ∀ (k : Int) (X : Prop), (k ∈ symL) → ((k == c) = false → X) → bcase (k == c) (Value.bool true = Value.bool (symI c)) X := fun k X hk hX => bcase_iff.mpr ⟨fun q => by
    have : k = c := by simpa using q
    subst this
    have : symI k = true := by unfold symI; simpa using hk
    rw [this], hX⟩
  refine key _ _ (by decide) fun a1 => key _ _ (by decide) fun a2 => key _ _ (by decide) fun a3 => key _ _ (by decide) fun a4 => key _ _ (by decide) fun a5 => key _ _ (by decide) fun a6 => key _ _ (by decide) fun a7 => key _ _ (by decide) fun a8 => key _ _ (by decide) fun a9 => key _ _ (by decide) fun b1 => key _ _ (by decide) fun b2 => key _ _ (by decide) fun b3 => key _ _ (by decide) fun b4 => key _ _ (by decide) fun b5 => ?_
  have : symI c = false := by
    simp at a1 a2 a3 a4 a5 a6 a7 a8 a9 b1 b2 b3 b4 b5
    unfold symI symL
    simp
    omega
  rw [this]
theorem s_End : Sound Try.prog Φ ΓEnd :=
  Sound.cons (by kernel_rfl) (fun args p v h _ => by unfold sByte at h; split at h <;> cases h; exact c_r1symbol hst _)
  (Sound.cons (by kernel_rfl) (fun args p v h _ => by unfold sByte at h; split at h <;> cases h; exact c_r1letter hst _)
  (Sound.cons (by kernel_rfl) (fun args p v h _ => by unfold sByte at h; split at h <;> cases h; exact c_r1digit hst _) Sound.nil))
set_option maxRecDepth 100000 in
theorem c_r1end (s : ByteArray) (i : Int) (ok : EndOk s i) : Ans Try.prog Φ 33 [.string s, .int .i64 i] (pair (num (endE s i)) (num (endK s i))) := by
  obtain ⟨i0, i1, hs, n1, n2, n3⟩ := ok
  obtain ⟨n, rfl⟩ := Int.eq_ofNat_of_zero_le i0
  rw [Int.toNat_natCast] at n1 n2 n3
  have h : n < s.size := by omega
  refine fn_by hst (s_End hst) (vc_r1end s n _) ?_
  have hwi : IntKind.i64.wrap ((n : Int) + 1) = ((n + 1 : Nat) : Int) := by rw [wrap_in (by omega)]; omega
  rw [inB_nat h, bcase_true, bcase_true, bcase_true, Int.toNat_natCast n, show ((s.get! n).toNat : Int) = bt s n from rfl, hwi]
  refine bcase_iff.mpr ⟨fun b1 => ?_, fun b1 => ⟨trivial, bcase_iff.mpr ⟨fun b2 => ?_, fun b2 => ⟨trivial, bcase_iff.mpr ⟨fun b3 => ?_, fun b3 => ?_⟩⟩⟩⟩⟩
  · have e : tokE s n = (4, n + 1) := by unfold tokE; rw [if_neg (by omega), if_pos (by simpa using b1)]
    obtain ⟨e1, e2⟩ := (end_is e).2 (by decide)
    exact eq_tup e1.symm e2.symm
  · obtain ⟨x1, x2, x3⟩ := sym_no (bt_u8 s n) b2
    have e : tokE s n = (3, n + 1) := by unfold tokE; rw [if_neg (by omega), if_neg x3, if_neg n3, if_neg (by rw [x1]; decide), if_neg (by rw [x2]; decide), if_pos b2]
    obtain ⟨e1, e2⟩ := (end_is e).2 (by decide)
    exact eq_tup e1.symm e2.symm
  · have b1 : bt s n ≠ 10 := by simpa using b1
    obtain ⟨r1, r2⟩ := run_le (p := wordI) (Nat.le_of_lt h)
    obtain ⟨w1, w2⟩ := run_wrap r1 (by omega)
    have e : tokE s n = (if 20 < runE wordI s n - n then -1 else 1, runE wordI s n) := by unfold tokE; rw [if_neg (by omega), if_neg b1, if_neg n3, if_pos b3]
    refine ⟨fun _ _ => ?_, ⟨n, ⟨rfl, rfl, rfl, trivial⟩, run_zero wordI (by omega), fun m hm => bcase_iff.mpr ⟨fun q => ?_, fun q => re_stop _ (re_end hm (by have := of_decide_eq_false q; omega))⟩⟩⟩
    · rw [w1]
      refine bcase_iff.mpr ⟨fun z => ?_, fun z => ?_⟩
      · have z := of_decide_eq_true z
        rw [if_pos (by omega)] at e
        obtain ⟨e1, e2⟩ := (end_is e).1 (by decide)
        exact eq_tup e1.symm e2.symm
      · have z := of_decide_eq_false z
        rw [if_neg (by omega)] at e
        obtain ⟨e1, e2⟩ := (end_is e).2 (by decide)
        exact eq_tup e1.symm e2.symm
    · have q : m < s.size := by have := of_decide_eq_true q; omega
      rw [inB_nat q, bcase_true, bcase_true, bcase_true, Int.toNat_natCast m, show ((s.get! m).toNat : Int) = bt s m from rfl]
      refine ⟨trivial, bcase_iff.mpr ⟨fun c1 => re_step _ hs hm q (by unfold wordI; rw [c1]; rfl), fun c1 => ⟨trivial, bcase_iff.mpr ⟨fun c2 => re_step _ hs hm q (by unfold wordI; rw [c2]; simp), fun c2 => bcase_iff.mpr ⟨fun c3 => re_step _ hs hm q ?_, fun c3 => re_stop _ (re_no hm ?_)⟩⟩⟩⟩⟩
      · have c3 : bt s m = 95 := by simpa using c3
        unfold wordI; rw [c3]; decide
      · have c3 : bt s m ≠ 95 := by simpa using c3
        unfold wordI; rw [c1, c2]; simp [c3]
  · have b1 : bt s n ≠ 10 := by simpa using b1
    obtain ⟨r1, r2⟩ := run_le (p := digI) (Nat.le_of_lt h)
    refine ⟨fun _ _ => ?_, loop_dig hs rfl (by omega)⟩
    have rI := runE_is digI s (Nat.le_of_lt h)
    have e0 : tokE s n = if digI (bt s n) = true then (2, numE s n) else (-1, n + 1) := by unfold tokE; rw [if_neg (by omega), if_neg b1, if_neg n3, if_neg (by rw [b3]; decide), show (if symI (bt s n) = true then ((3 : Int), n + 1) else (-1, n + 1)) = (-1, n + 1) from if_neg (by rw [b2]; decide)]
    have hne : numE s n = if runE digI s n < s.size ∧ bt s (runE digI s n) = 46 then (if runE digI s n + 1 < runE digI s (runE digI s n + 1) then runE digI s (runE digI s n + 1) else runE digI s n) else runE digI s n := rfl
    generalize hE : runE digI s n = E at *
    refine bcase_iff.mpr ⟨fun z => ?_, fun z => ?_⟩
    · have z : (E : Int) = n := by simpa using z
      have z : E = n := by omega
      have nd : digI (bt s n) = false := by rw [z] at rI; exact rI.stop h
      rw [if_neg (by rw [nd]; decide)] at e0
      obtain ⟨e1, e2⟩ := (end_is e0).1 (by decide)
      exact eq_tup e1.symm e2.symm
    have z' : (E : Int) ≠ n := by simpa using z
    have z : n < E := by omega
    have yd : digI (bt s n) = true := rI.all n (Nat.le_refl _) z
    rw [if_pos yd] at e0
    obtain ⟨e1, e2⟩ := (end_is e0).2 (by decide)
    rw [e1, e2]
    have leaf : numE s n = E → Value.tuple #[Value.int IntKind.i64 (E : Int), Value.int IntKind.i64 2] = pair (num (numE s n : Nat)) (num 2) := fun hq => by rw [hq]
    have we : IntKind.i64.wrap ((E : Int) + 1) = ((E + 1 : Nat) : Int) := by rw [wrap_in (by omega)]; omega
    rw [we]
    refine bcase_iff.mpr ⟨fun y => ?_, fun y => leaf ?_⟩
    · have y : E + 1 < s.size := by have := of_decide_eq_true y; omega
      rw [inB_nat (show E < s.size by omega), bcase_true, inB_nat y, bcase_true, Int.toNat_natCast E, Int.toNat_natCast (E + 1), show ((s.get! E).toNat : Int) = bt s E from rfl, show ((s.get! (E + 1)).toNat : Int) = bt s (E + 1) from rfl]
      have r := runE_is digI s (i := E + 1) (by omega)
      refine bcase_iff.mpr ⟨fun x => ⟨trivial, bcase_iff.mpr ⟨fun u => ⟨fun _ _ => ?_, loop_dig hs rfl (by omega)⟩, fun u => leaf ?_⟩⟩, fun x => leaf ?_⟩
      · have x : bt s E = 46 := by simpa using x
        have p := run_pos r (by omega) u
        rw [hne, if_pos ⟨by omega, x⟩, if_pos p]
      · have x : bt s E = 46 := by simpa using x
        have p : ¬ E + 1 < runE digI s (E + 1) := fun k => by
          have := r.all (E + 1) (Nat.le_refl _) k
          rw [u] at this
          cases this
        rw [hne, if_pos ⟨by omega, x⟩, if_neg p]
      · have x : bt s E ≠ 46 := by simpa using x
        rw [hne, if_neg (fun k => x k.2)]
    · have y : ¬ E + 1 < s.size := by have := of_decide_eq_false y; omega
      rw [hne]
      split
      · rename_i k
        have l := run_le (p := digI) (s := s) (i := E + 1) (by omega)
        rw [if_neg (by omega)]
      · rfl
end
end Go.Proofs.Ytobmbbmompoliaa
