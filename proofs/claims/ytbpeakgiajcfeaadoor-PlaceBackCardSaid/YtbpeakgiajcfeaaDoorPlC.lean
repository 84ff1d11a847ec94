/- Contracts: the program's, and the reference's, texts of points. -/
import Derived.Test.YtbpeakgiajcfeaaDoorPlV
namespace Go.Proofs.YtbpeakgiajcfeaaDoor
open Go Go.Abs Go.RowKit
set_option linter.unusedVariables false
set_option linter.unusedSimpArgs false
theorem bF {c : Bool} {A B : Prop} (h : c = false) (hb : B) : bcase c A B := by rw [h, bcase_false]; exact hb
theorem bT {c : Bool} {A B : Prop} (h : c = true) (hb : A) : bcase c A B := by rw [h, bcase_true]; exact hb
theorem app_bytes (l : List UInt8) (m : ByteArray) : (⟨l.toArray⟩ : ByteArray) ++ m = ⟨(l ++ m.data.toList).toArray⟩ := by apply ByteArray.ext; simp
theorem ext_list {a b : ByteArray} (h : a.data.toList = b.data.toList) : a = b := by
  apply ByteArray.ext
  exact Array.toList_inj.mp h
theorem ex_list (s : ByteArray) (i j : Nat) : (s.extract i j).data.toList = (s.data.toList.take j).drop i := by
  rw [ByteArray.data_extract, Array.toList_extract, List.extract_eq_take_drop, List.drop_take]
theorem suf_drop (l r : List UInt8) : Lib.hasSuffix l r = (decide (r.length ≤ l.length) && (l.drop (l.length - r.length) == r)) := by
  rw [Bool.eq_iff_iff, Bool.and_eq_true, decide_eq_true_iff, beq_iff_eq]
  unfold Lib.hasSuffix
  rw [List.isSuffixOf_iff_suffix]
  constructor
  · intro h
    exact ⟨h.length_le, (List.suffix_iff_eq_drop.mp h).symm⟩
  · rintro ⟨-, h⟩
    exact List.suffix_iff_eq_drop.mpr h.symm
section
variable {Φ : World → Prop} (hst : ∀ w w', Φ w → Below w.heap.size w w' → Φ w')
include hst
theorem c_cutSuffix (s q : ByteArray) (h : SL s) (hq : q.size ≤ 4000) : Ans Tryd.prog Φ 32 [.string s, .string q] (.tuple #[.string (tsB s q), .bool (sufB s q)]) := by
  refine fn_by hst Sound.nil (vc_cutSuffix s q _) ?_
  unfold SL at h
  have s1 := Lib.size_eq s
  have s2 := Lib.size_eq q
  unfold tsB sufB Lib.trimSuffix
  rw [suf_drop]
  refine bcase_iff.mpr ⟨fun c => ?_, fun c => ?_⟩
  · have c := of_decide_eq_true c
    rw [decide_eq_true (show q.data.toList.length ≤ s.data.toList.length by omega), Bool.true_and]
    have w : IntKind.i64.wrap ((s.size : Int) - (q.size : Int)) = ((s.data.toList.length - q.data.toList.length : Nat) : Int) := by rw [wrap_in (by omega)]; omega
    rw [w]
    refine bT (by rw [decide_eq_true (by omega), decide_eq_true (by omega), decide_eq_true (by omega)]; rfl) ?_
    have e1 : (s.extract ((s.data.toList.length - q.data.toList.length : Nat) : Int).toNat (s.size : Int).toNat).toList = s.data.toList.drop (s.data.toList.length - q.data.toList.length) := by
      rw [ByteArray.toList_eq, ex_list, Int.toNat_natCast, Int.toNat_natCast, s1, List.take_length]
    rw [e1, ByteArray.toList_eq]
    have e2 : ∀ k, s.extract 0 k = ⟨(s.data.toList.take k).toArray⟩ := fun k => ext_list (by rw [ex_list]; rfl)
    cases hb : s.data.toList.drop (s.data.toList.length - q.data.toList.length) == q.data.toList with
    | true =>
      refine bF rfl (bT (by rw [decide_eq_true (by omega), decide_eq_true (by omega), decide_eq_true (by omega)]; rfl) ?_)
      rw [e2]; rfl
    | false => exact bT rfl rfl
  · have c := of_decide_eq_false c
    rw [decide_eq_false (show ¬ q.data.toList.length ≤ s.data.toList.length by omega)]
    rfl
end
theorem okText_nat (k : Nat) (h : k ≤ 1099511627776) : okText (k : Int) = ⟨(coreL k).toArray⟩ := by
  unfold okText textB textL
  rw [if_pos (by unfold Fit; omega), if_neg (by omega), Int.natAbs_natCast]
theorem textB_nat (k : Nat) : textB (k : Int) = ⟨(coreL k).toArray⟩ := by
  unfold textB textL
  rw [if_neg (by omega), Int.natAbs_natCast]
theorem mk_sz (l : List UInt8) : (ByteArray.mk l.toArray).size = l.length := by simp [ByteArray.size]
theorem side_ok (n : Int) (p m : ByteArray) (h : SdOk n p m) (K : Value → Prop) (hK : K (.string (sideB n p m))) (T : Int → ByteArray) (hT : ∀ k : Nat, k ≤ 1099511627776 → T k = ⟨(coreL k).toArray⟩) {A B : Prop} (hA : n < 0 → A) (hB : ¬ n < 0 → B) :
    bcase (decide (n < 0)) (A ∧ bcase (tooLong (T (IntKind.i64.wrap (0 - n))) m) False (K (.string (T (IntKind.i64.wrap (0 - n)) ++ m)))) (B ∧ bcase (tooLong (T n) p) False (K (.string (T n ++ p)))) := by
  obtain ⟨h1, h2, h3, h4⟩ := h
  have cs := core_short n.natAbs (by omega)
  refine bcase_iff.mpr ⟨fun c => ⟨hA (of_decide_eq_true c), ?_⟩, fun c => ⟨hB (of_decide_eq_false c), ?_⟩⟩
  · have c := of_decide_eq_true c
    have e : IntKind.i64.wrap (0 - n) = ((n.natAbs : Nat) : Int) := by rw [wrap_in (by omega)]; omega
    rw [e, hT _ (by omega), not_long (by rw [mk_sz]; omega), bcase_false, app_bytes]
    unfold sideB at hK
    rw [if_pos c] at hK
    exact hK
  · have c := of_decide_eq_false c
    have e : n = ((n.natAbs : Nat) : Int) := by omega
    have hT' := hT n.natAbs (by omega)
    rw [← e] at hT'
    rw [hT', not_long (by rw [mk_sz]; omega), bcase_false, app_bytes]
    unfold sideB at hK
    rw [if_neg c] at hK
    exact hK
theorem c_plSide (n : Int) (p m : ByteArray) (h : SdOk n p m) : Ans Tryd.prog VT 18 [num n, .string p, .string m] (.string (sideB n p m)) := by
  refine fn_by st_vt (Sound.cons (by kernel_rfl) (fun args p v h _ => by split at h <;> cases h; exact up_vt (c_text _)) Sound.nil) (vc_plSide n p m okText (fun n => pick (Fit n) 0 5) _) ?_
  exact side_ok n p m h (fun v => v = .string (sideB n p m)) rfl okText okText_nat (fun _ => trivial) (fun _ => trivial)
theorem c_r8side (n : Int) (p m : ByteArray) (h : SdOk n p m) : Ans Tryd.prog VT 21 [num n, .string p, .string m] (.string (sideB n p m)) := by
  refine fn_by st_vt (Sound.cons (by kernel_rfl) (fun args p v h hp => by split at h <;> cases h; exact c_r5text st_vt _ hp) Sound.nil) (vc_r8side n p m textB _) ?_
  have h' := h
  unfold SdOk at h'
  exact side_ok n p m h (fun v => v = .string (sideB n p m)) rfl textB (fun k _ => textB_nat k) (fun c => by rw [wrap_in (by omega)]; unfold Fit; omega) (fun c => by unfold Fit; omega)
def ptB (a b : Int) : ByteArray := ⟨(if vPt a b then pointL a b else []).toArray⟩
theorem side_B (n : Int) (c d : UInt8) : sideB n (ByteArray.mk #[c]) (ByteArray.mk #[d]) = ⟨(sideL n c d).toArray⟩ := by
  unfold sideB sideL
  split <;> rfl
theorem side_len (n : Int) (c d : UInt8) (h : n.natAbs ≤ 1099511627776) : (sideL n c d).length ≤ 31 := by
  have := core_short n.natAbs h
  unfold sideL
  rw [List.length_append, List.length_singleton]; omega
theorem point_ok (a b : Int) (h : vPt a b) {Q : ByteArray → Prop} (hQ : Q ⟨(pointL a b).toArray⟩) :
    SdOk a (ByteArray.mk #[78]) (ByteArray.mk #[83]) ∧ bcase (tooLong (sideB a (ByteArray.mk #[78]) (ByteArray.mk #[83])) (ByteArray.mk #[32])) False
      (SdOk b (ByteArray.mk #[69]) (ByteArray.mk #[87]) ∧ bcase (tooLong (sideB a (ByteArray.mk #[78]) (ByteArray.mk #[83]) ++ ByteArray.mk #[32]) (sideB b (ByteArray.mk #[69]) (ByteArray.mk #[87]))) False
        (Q (sideB a (ByteArray.mk #[78]) (ByteArray.mk #[83]) ++ ByteArray.mk #[32] ++ sideB b (ByteArray.mk #[69]) (ByteArray.mk #[87])))) := by
  unfold vPt at h
  have l1 := side_len a 78 83 (by omega)
  have l2 := side_len b 69 87 (by omega)
  rw [side_B, side_B, show (ByteArray.mk #[32]) = ⟨[32].toArray⟩ from rfl, bytes_app, bytes_app]
  refine ⟨⟨by omega, by omega, by decide, by decide⟩, bF (not_long (by rw [mk_sz, mk_sz]; simp; omega)) ⟨⟨by omega, by omega, by decide, by decide⟩, bF (not_long (by rw [mk_sz, mk_sz]; simp; omega)) ?_⟩⟩
  unfold pointL at hQ
  simpa using hQ
theorem c_plText (a b : Int) : Ans Tryd.prog VT 6 [arc a b] (pair (.string (ptB a b)) (num (pick (vPt a b) 0 1))) := by
  refine fn_by st_vt (Sound.cons (by kernel_rfl) (fun args p v h hp => by split at h <;> cases h; exact c_plSide _ _ _ hp) Sound.nil) (vc_plText a b sideB _) ?_
  by_cases h : vPt a b
  · have h' := h
    unfold vPt at h'
    refine bT (decide_eq_true (by omega)) (bT (decide_eq_true (by omega)) (bT (decide_eq_true (by omega)) (bF (by rw [decide_eq_true (by omega)]; rfl) ?_)))
    refine point_ok a b h (Q := fun x => Value.tuple #[Value.string x, Value.int IntKind.i64 0] = _) ?_
    unfold ptB
    rw [if_pos h, pick_yes h]
  · have e : Value.tuple #[Value.string (ByteArray.mk #[]), Value.int IntKind.i64 1] = pair (.string (ptB a b)) (num (pick (vPt a b) 0 1)) := by
      unfold ptB
      rw [if_neg h, pick_no h]
    refine bcase_iff.mpr ⟨fun c1 => bcase_iff.mpr ⟨fun c2 => bcase_iff.mpr ⟨fun c3 => bT ?_ e, fun _ => e⟩, fun _ => e⟩, fun _ => e⟩
    have c1 := of_decide_eq_true c1
    have c2 := of_decide_eq_true c2
    have c3 := of_decide_eq_true c3
    rw [decide_eq_false (by unfold vPt at h; omega)]; rfl
theorem c_r8Text (a b : Int) (h : vPt a b) : Ans Tryd.prog VT 10 [arc a b] (.string ⟨(pointL a b).toArray⟩) := by
  refine fn_by st_vt (Sound.cons (by kernel_rfl) (fun args p v h hp => by split at h <;> cases h; exact c_r8side _ _ _ hp) Sound.nil) (vc_r8Text a b sideB _) ?_
  exact point_ok a b h (Q := fun x => Value.string x = _) rfl
end Go.Proofs.YtbpeakgiajcfeaaDoor
