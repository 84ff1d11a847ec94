/- Contracts: longitudes; printed places; the chapter's examples. The laws of places. -/
import Derived.Test.YtbpeakgiajcfeaaDoorPlE
namespace Go.Proofs.YtbpeakgiajcfeaaDoor
open Go Go.Abs Go.RowKit
set_option linter.unusedVariables false
set_option linter.unusedSimpArgs false
section
variable {Φ : World → Prop} (hst : ∀ w w', Φ w → Below w.heap.size w w' → Φ w')
include hst
theorem c_every : Ans Tryd.prog Φ 43 [] (arc (-10800000) 10800000) := fn_by hst Sound.nil (vc_plEvery _) rfl
theorem c_r8all : Ans Tryd.prog Φ 41 [] (arc (-10800000) 10800000) := fn_by hst Sound.nil (vc_r8All _) rfl
theorem s_Ev : Sound Tryd.prog Φ ΓEv :=
  Sound.cons (by kernel_rfl) (fun args pr v h hp => by unfold sEvery at h; split at h <;> cases h; exact c_every hst)
  (Sound.cons (by kernel_rfl) (fun args pr v h hp => by unfold sEvery at h; split at h <;> cases h; exact c_r8all hst) Sound.nil)
theorem c_all (a b : Int) : Ans Tryd.prog Φ 44 [arc a b] (.bool (allB a b)) := fn_by hst (s_Ev hst) (vc_plAll a b _) ⟨trivial, rfl⟩
theorem s_Al : Sound Tryd.prog Φ ΓAl :=
  Sound.cons (by kernel_rfl) (fun args pr v h hp => by unfold sAllB at h; split at h <;> cases h; exact c_all hst _ _) (s_Ev hst)
omit hst in
theorem allB_iff {a b : Int} : allB a b = true ↔ a = -10800000 ∧ b = 10800000 := by
  unfold allB
  rw [Bool.and_eq_true, Bool.and_true, beq_iff_eq, beq_iff_eq]
theorem c_lon (a b : Int) : Ans Tryd.prog Φ 29 [arc a b] (.bool (decide (pLon a b))) := by
  refine fn_by hst (s_Al hst) (vc_plLon a b _) ⟨trivial, ?_⟩
  unfold pLon
  refine bcase_iff.mpr ⟨fun c => eq_yes (Or.inl (allB_iff.mp c)), fun c => ?_⟩
  have c : ¬ (a = -10800000 ∧ b = 10800000) := fun h => by rw [allB_iff.mpr h] at c; cases c
  refine bcase_iff.mpr ⟨fun c1 => bcase_iff.mpr ⟨fun c2 => bcase_iff.mpr ⟨fun c3 => eq_dec ?_, fun c3 => eq_no ?_⟩, fun c2 => eq_no ?_⟩, fun c1 => eq_no ?_⟩
  · have := of_decide_eq_true c1
    have := of_decide_eq_true c2
    have := of_decide_eq_true c3
    exact ⟨fun h => Or.inr ⟨by assumption, by assumption, by assumption, h⟩, fun h => h.resolve_left c |>.2.2.2⟩
  · exact fun h => (of_decide_eq_false c3) (h.resolve_left c).2.2.1
  · exact fun h => (of_decide_eq_false c2) (h.resolve_left c).2.1
  · exact fun h => (of_decide_eq_false c1) (h.resolve_left c).1
theorem c_r8lon (a b : Int) : Ans Tryd.prog Φ 25 [arc a b] (.bool (decide (vLon a b))) := by
  refine fn_by hst (s_Al hst) (vc_r8Lon a b _) ⟨trivial, ?_⟩
  unfold vLon
  refine bcase_iff.mpr ⟨fun c => eq_yes (Or.inl (allB_iff.mp c)), fun c => ?_⟩
  have c : ¬ (a = -10800000 ∧ b = 10800000) := fun h => by
    have := allB_iff.mpr h
    unfold allB at this
    rw [this] at c; cases c
  refine bcase_iff.mpr ⟨fun c1 => bcase_iff.mpr ⟨fun c2 => bcase_iff.mpr ⟨fun c3 => eq_dec ?_, fun c3 => eq_no ?_⟩, fun c2 => eq_no ?_⟩, fun c1 => eq_no ?_⟩
  · have h1 := of_decide_eq_true c1
    have h2 := of_decide_eq_true c2
    have := of_decide_eq_true c3
    rw [wrap_in (by omega)]
    exact ⟨fun h => Or.inr ⟨by assumption, by assumption, by assumption, h⟩, fun h => h.resolve_left c |>.2.2.2⟩
  · exact fun h => (of_decide_eq_false c3) (h.resolve_left c).2.2.1
  · exact fun h => (of_decide_eq_false c2) (h.resolve_left c).2.1
  · exact fun h => (of_decide_eq_false c1) (h.resolve_left c).1
theorem c_beyond (a b n : Int) (h : ByOk a n) : Ans Tryd.prog Φ 45 [arc a b, num n] (num ((n - a) % 21600000)) := by
  refine fn_by hst (Sound.cons (by kernel_rfl) (fun args pr v h hp => by unfold sWrap at h; split at h <;> cases h; exact c_wrap hst _) Sound.nil) (vc_beyond a b n _) ⟨trivial, ?_⟩
  rw [wrap_in (by unfold ByOk I64 at h; omega)]
theorem r_around (xs : List (Int × Int)) (h : xs = hullX) : RAns Tryd.prog Φ 27 [.one (.r 33 (.pair (.int .i64) (.int .i64)) xs)] [.agg [.v (num 10740000), .v (num 10860000)]] := by
  subst h
  refine rfn_by hst (Sound.cons (by kernel_rfl) (fun args pr v h hp => by split at h <;> cases h; exact c_beyond hst _ _ _ hp) (s_Al hst)) (vc_around ()) ?_
  refine ⟨trivial, trivial, ?_, ?_, trivial, ?_, ?_, rfl, ?_, trivial⟩
  · unfold ByOk I64; decide
  · unfold ByOk I64; decide
  · unfold ByOk I64; decide
  · unfold ByOk I64; decide
  · exact congrArg (Value.int IntKind.i64) (by decide)
theorem s_Hu : Sound Tryd.prog Φ (ΓHu fun a b => decide (pLon a b)) :=
  Sound.rcons (by kernel_rfl) (fun ads p rds h hp => by unfold rAround at h; split at h <;> cases h; exact r_around hst _ hp)
  (Sound.cons (by kernel_rfl) (fun args pr v h hp => by unfold sLonB at h; split at h <;> cases h; exact c_lon hst _ _) Sound.nil)
theorem c_hullX : Ans Tryd.prog Φ 16 [.agg ⟨[num 0, num 0, num 10740000, num 10740000]⟩, .agg ⟨[num 0, num 0, num (-10740000), num (-10740000)]⟩] (.tuple ⟨[.agg ⟨[num 0, num 0, num 10740000, num 10860000]⟩, num 0]⟩) := by
  refine fn_by hst (s_Hu hst) (vc_hullX _ _) ?_
  exact ⟨trivial, bF (by decide) ⟨trivial, bF (by decide) ⟨rfl, rfl⟩⟩⟩
theorem c_validX : Ans Tryd.prog Φ 17 [.agg ⟨[num 0, num 0, num 10740000, num 10860000]⟩] (.bool true) := by
  refine fn_by hst (s_Hu hst) (vc_validX _ _) ?_
  exact ⟨trivial, congrArg Value.bool (by decide)⟩
end
theorem ptB_ex : ptB 2045500 (-7095000) = ByteArray.mk #[51, 52, 45, 48, 53, 46, 53, 78, 32, 49, 49, 56, 45, 49, 53, 46, 48, 87] := by
  unfold ptB
  rw [if_pos (by decide)]
  exact congrArg (fun l : List UInt8 => ByteArray.mk l.toArray) (by decide +kernel)
theorem c_awake08 : Ans Tryd.prog VT 5 [] (.bool true) := by
  refine fn_by st_vt (Sound.cons (by kernel_rfl) (fun args pr v h hp => by
      split at h <;> cases h
      obtain ⟨h1, h2⟩ := hp
      simp only [List.cons.injEq, and_true] at h1 h2
      obtain ⟨rfl, rfl, rfl, rfl⟩ := h1
      obtain ⟨rfl, rfl, rfl, rfl⟩ := h2
      exact c_hullX st_vt)
    (Sound.cons (by kernel_rfl) (fun args pr v h hp => by
      split at h <;> cases h
      simp only [VxOk, List.cons.injEq, and_true] at hp
      obtain ⟨rfl, rfl, rfl, rfl⟩ := hp
      exact c_validX st_vt)
    (Sound.cons (by kernel_rfl) (fun args pr v h hp => by split at h <;> cases h; exact c_plText _ _) Sound.nil))) (vc_awake08 ptB (fun a b => pick (vPt a b) 0 1) _) ?_
  refine ⟨⟨rfl, rfl⟩, trivial, bT (by decide) (bT (by rw [ptB_ex, beq_self_eq_true]) ⟨rfl, rfl⟩)⟩
/-! Printed places. -/
def vPl (a b c d : Int) : Prop := a ≤ b ∧ -5400000 ≤ a ∧ b ≤ 5400000 ∧ vLon c d
instance (a b c d : Int) : Decidable (vPl a b c d) := by unfold vPl; infer_instance
def ppB (a b c d : Int) : ByteArray := if vPl a b c d then printB a b ++ ByteArray.mk #[59, 32] ++ printB c d else ⟨#[]⟩
def prE (a b : Int) : Int := pick (Val a b) (pick (Fit (rnd a) ∧ Fit (rnd b)) 0 5) 1
theorem print_len {a b : Int} (h : prints a b) : (printB a b).size ≤ 70 := by
  obtain ⟨hv, fa, fb⟩ := id h
  unfold printB
  rw [if_pos h, mk_sz]
  have tl : ∀ {n}, Fit n → (textL n).length ≤ 31 := fun {n} hn => by
    unfold textL; have := core_short n.natAbs (by unfold Fit at hn; omega); split
    · rw [List.length_cons]; omega
    · omega
  have l1 := tl fa
  have l2 := tl fb
  unfold printL
  split
  · omega
  · rw [List.length_append, List.length_append]; simp; omega
theorem lat_prints {a b : Int} (h : a ≤ b ∧ -5400000 ≤ a ∧ b ≤ 5400000) : prints a b := by
  unfold prints Val Fit rnd; omega
theorem lon_prints {c d : Int} (h : vLon c d) : prints c d := by
  unfold vLon at h
  unfold prints Val Fit rnd
  omega
theorem prE_ok {a b : Int} (h : prints a b) : prE a b = 0 := by
  unfold prE
  rw [pick_yes h.1, pick_yes h.2]
theorem join_ok {a b c d : Int} (h : prints a b) (k : prints c d) {Q : ByteArray → Prop} (hQ : Q (printB a b ++ ByteArray.mk #[59, 32] ++ printB c d)) :
    bcase (tooLong (printB a b) (ByteArray.mk #[59, 32])) False (bcase (tooLong (printB a b ++ ByteArray.mk #[59, 32]) (printB c d)) False (Q (printB a b ++ ByteArray.mk #[59, 32] ++ printB c d))) := by
  have l1 := print_len h
  have l2 := print_len k
  have l3 : (ByteArray.mk #[59, 32]).size = 2 := rfl
  exact bF (not_long (by omega)) (bF (not_long (by rw [ByteArray.size_append]; omega)) hQ)
theorem c_plPrint (a b c d : Int) (h : CdOk c d) : Ans Tryd.prog VT 12 [.agg ⟨[.int .i64 a, .int .i64 b, .int .i64 c, .int .i64 d]⟩] (pair (.string (ppB a b c d)) (num (pick (vPl a b c d) 0 1))) := by
  refine fn_by st_vt (Sound.cons (by kernel_rfl) (fun args pr v h hp => by unfold sLonB at h; split at h <;> cases h; exact c_lon st_vt _ _)
    (Sound.cons (by kernel_rfl) (fun args pr v h hp => by split at h <;> cases h; exact up_vt (c_print _ _)) Sound.nil)) (vc_plPrint a b c d printB prE (fun a b => decide (pLon a b)) _) ?_
  obtain ⟨⟨c0, c1⟩, d0, d1⟩ := h
  have no : ¬ vPl a b c d → Value.tuple #[Value.string (ByteArray.mk #[]), Value.int IntKind.i64 1] = pair (.string (ppB a b c d)) (num (pick (vPl a b c d) 0 1)) := fun n => by
    unfold ppB
    rw [if_neg n, pick_no n]
  by_cases hl : a ≤ b ∧ -5400000 ≤ a ∧ b ≤ 5400000
  · have p1 := lat_prints hl
    refine bT (decide_eq_true hl.1) (bT (decide_eq_true hl.2.1) (bT (decide_eq_true hl.2.2) ⟨trivial, ?_⟩))
    by_cases hv : vLon c d
    · have p2 := lon_prints hv
      have hp : pLon c d := by unfold vLon at hv; unfold pLon; rw [wrap_in (by omega)]; omega
      have hV : vPl a b c d := ⟨hl.1, hl.2.1, hl.2.2, hv⟩
      rw [prE_ok p1, prE_ok p2]
      refine bF (by rw [decide_eq_true hp]; rfl) ⟨trivial, trivial, bF rfl (bF rfl ?_)⟩
      refine join_ok p1 p2 (Q := fun x => Value.tuple #[Value.string x, Value.int IntKind.i64 0] = _) ?_
      unfold ppB
      rw [if_pos hV, pick_yes hV]
    · have hV : ¬ vPl a b c d := fun h => hv h.2.2.2
      refine bcase_iff.mpr ⟨fun _ => no hV, fun q => ⟨trivial, trivial, ?_⟩⟩
      have hp : pLon c d := by
        have : decide (pLon c d) = true := by simpa using q
        exact of_decide_eq_true this
      have e2 : prE c d = 1 := by
        unfold prE
        rw [pick_no]
        unfold Val
        unfold vLon at hv
        unfold pLon at hp
        rw [IntKind.wrap_i64] at hp
        omega
      rw [prE_ok p1, e2]
      exact bF rfl (bT rfl (no hV))
  · have hV : ¬ vPl a b c d := fun h => hl ⟨h.1, h.2.1, h.2.2.1⟩
    refine bcase_iff.mpr ⟨fun q1 => bcase_iff.mpr ⟨fun q2 => bcase_iff.mpr ⟨fun q3 => ?_, fun _ => no hV⟩, fun _ => no hV⟩, fun _ => no hV⟩
    exact absurd ⟨of_decide_eq_true q1, of_decide_eq_true q2, of_decide_eq_true q3⟩ hl
theorem c_r8Print (a b c d : Int) (h : vPl a b c d) : Ans Tryd.prog VT 14 [.agg ⟨[.int .i64 a, .int .i64 b, .int .i64 c, .int .i64 d]⟩] (.string (ppB a b c d)) := by
  refine fn_by st_vt (Sound.cons (by kernel_rfl) (fun args pr v h hp => by split at h <;> cases h; exact c_r5print st_vt _ _ hp) Sound.nil) (vc_r8Print a b c d printB (fun a b => pick (Fit (rnd a) ∧ Fit (rnd b)) 0 5) _) ?_
  have p1 := lat_prints ⟨h.1, h.2.1, h.2.2.1⟩
  have p2 := lon_prints h.2.2.2
  refine ⟨p1.1, p2.1, join_ok p1 p2 (Q := fun x => Value.string x = _) ?_⟩
  unfold ppB
  rw [if_pos h]
end Go.Proofs.YtbpeakgiajcfeaaDoor
