/- Distances by vertical angles: contracts. -/
import Derived.Test.YtofnffcdbbiohaaDoorByV
namespace Go.Proofs.YtofnffcdbbiohaaDoor
open Go Go.Abs Go.RowKit Go.Sine
set_option linter.unusedVariables false
set_option linter.unusedSimpArgs false
theorem enc_pos {a b : Int} (h0 : 1 ≤ a) (hab : a ≤ b) (h1 : b ≤ 5400000) : 0 < encL a b := by
  rw [(box1 (x := a) (y := b) (by omega) hab h1).2.2.1]
  have m := sin_le (p := 1) (q := a) (by omega) h0 (by omega)
  have e := sinP_spots.1.2
  omega
theorem quoP {h a b : Int} (hv : ArcV a b) (hr : InR h a b) : QuoP (cL a b) (cH a b) (encL a b) (encH a b) (10 * h) := by
  obtain ⟨h0, h1, a0, b0⟩ := hr
  have hab := hv.2.1
  exact ⟨enc_fix (by omega), enc_fix hab, enc_pos a0 hab b0, by unfold Q40; omega⟩
theorem q41_L {h a b : Int} (o : okBy h a b) (hv : ArcV a b) (hr : InR h a b) : -1099511627776 ≤ qL (cL a b) (cH a b) (encL a b) (encH a b) (10 * h) ∧ qL (cL a b) (cH a b) (encL a b) (encH a b) (10 * h) ≤ qH (cL a b) (cH a b) (encL a b) (encH a b) (10 * h) ∧ qH (cL a b) (cH a b) (encL a b) (encH a b) (10 * h) ≤ 1099511627776 := by
  obtain ⟨_, _, hc, _⟩ := quoP hv hr
  have i1 := fl_ce (x := cL a b) (n := 10 * h) hc
  have := o.1
  have := o.2
  refine ⟨o.1, ?_, o.2⟩
  unfold qL qH
  omega
theorem by_arg {h a b : Int} (p : ¬ ArcV a b) : byL h a b = 0 ∧ byH h a b = 0 ∧ byE h a b = 1 :=
  ⟨gate_f (fun q => p q.1), gate_f (fun q => p q.1), pick_f p⟩
theorem by_range {h a b : Int} (v : ArcV a b) (p : ¬ InR h a b) : byL h a b = 0 ∧ byH h a b = 0 ∧ byE h a b = 2 :=
  ⟨gate_f (fun q => p q.2.1), gate_f (fun q => p q.2.1), (pick_t v).trans (pick_f p)⟩
theorem by_big {h a b : Int} (v : ArcV a b) (r : InR h a b) (p : ¬ okBy h a b) : byL h a b = 0 ∧ byH h a b = 0 ∧ byE h a b = 5 :=
  ⟨gate_f (fun q => p q.2.2), gate_f (fun q => p q.2.2), (pick_t v).trans ((pick_t r).trans (pick_f p))⟩
theorem by_yes {h a b : Int} (v : ArcV a b) (r : InR h a b) (p : okBy h a b) : byL h a b = qL (cL a b) (cH a b) (encL a b) (encH a b) (10 * h) / 1852 ∧ byH h a b = -(-qH (cL a b) (cH a b) (encL a b) (encH a b) (10 * h) / 1852) ∧ byE h a b = 0 :=
  ⟨gate_t ⟨v, r, p⟩, gate_t ⟨v, r, p⟩, (pick_t v).trans ((pick_t r).trans (pick_t p))⟩
theorem ans_of3 {L H E l h e : Int} (a : L = l ∧ H = h ∧ E = e) : Value.tuple #[Value.agg #[Value.int IntKind.i64 l, Value.int IntKind.i64 h], Value.int IntKind.i64 e] = pair (wid L H) (num E) := by
  obtain ⟨rfl, rfl, rfl⟩ := a
  rfl
variable {Φ : World → Prop} (hst : ∀ w w', Φ w → Below w.heap.size w w' → Φ w')
include hst
theorem h_val5 (a b : Int) : Ans Tryd.prog Φ 14 [wid a b] (.bool (decide (ArcV a b))) := by
  have := Dp.c_valid hst a b
  have e : decide (Dp.Val a b) = decide (ArcV a b) := decide_eq_decide.mpr (by unfold Dp.Val ArcV; omega)
  rw [e] at this
  exact this
theorem h_cos {a b : Int} (hp : ArcV a b) : Ans Tryd.prog Φ 8 [wid a b] (pair (wid (cL a b) (cH a b)) (num 0)) := by
  have := c_trCos hst (Φ := Φ) a b
  rw [if_pos hp] at this
  exact this
theorem h_sin {a b : Int} (hp : ArcV a b) : Ans Tryd.prog Φ 7 [wid a b] (pair (wid (encL a b) (encH a b)) (num 0)) := by
  have := c_trSin hst (Φ := Φ) a b
  rw [if_pos hp] at this
  exact this
theorem s_By : Sound Tryd.prog Φ ΓBy :=
  Sound.cons (by kernel_rfl) (fun args p v h hp => by unfold sVal5 at h; split at h <;> cases h; exact h_val5 hst _ _)
  (Sound.cons (by kernel_rfl) (fun args p v h hp => by unfold sTrCos at h; split at h <;> cases h; exact h_cos hst hp)
  (Sound.cons (by kernel_rfl) (fun args p v h hp => by unfold sTrSin at h; split at h <;> cases h; exact h_sin hst hp)
  (Sound.cons (by kernel_rfl) (fun args p v h hp => by unfold sQuo at h; split at h <;> cases h; exact c_fxquo hst hp.1 hp.2.1 hp.2.2.1 hp.2.2.2)
  (Sound.cons (by kernel_rfl) (fun args p v h hp => by
    unfold sFl5 at h; split at h <;> cases h
    obtain ⟨h1, rfl⟩ := hp
    exact Dp.c_dfloor hst _ _ (q41 h1) ⟨by decide, by decide⟩) Sound.nil))))
omit hst in
theorem s_Br : Sound Tryd.prog Φ ΓBr := Sound.nil
theorem c_dby (h a b : Int) : Ans Tryd.prog Φ 5 [num h, wid a b] (pair (wid (byL h a b) (byH h a b)) (num (byE h a b))) := by
  refine fn_by hst (s_By hst) (vc_dby h a b _) ⟨trivial, bcase_iff.mpr ⟨fun p => ?_, fun p => ?_⟩⟩
  · have p : ¬ ArcV a b := by simpa using p
    exact ans_of3 (by_arg p)
  have v : ArcV a b := by simpa using p
  clear p
  have out : ¬ InR h a b → Value.tuple #[Value.agg #[Value.int IntKind.i64 0, Value.int IntKind.i64 0], Value.int IntKind.i64 2] = pair (wid (byL h a b) (byH h a b)) (num (byE h a b)) := fun r => ans_of3 (by_range v r)
  refine bcase_iff.mpr ⟨fun p1 => bcase_iff.mpr ⟨fun p2 => out ?_, fun p2 => bcase_iff.mpr ⟨fun p3 => out ?_, fun p3 => bcase_iff.mpr ⟨fun p4 => out ?_, fun p4 => ?_⟩⟩⟩, fun p1 => out ?_⟩
  · have p2 : ¬ h ≤ 1000000 := by simpa using p2
    exact fun r => p2 r.2.1
  · have p3 := of_decide_eq_true p3
    exact fun r => by have := r.2.2.1; omega
  · have p4 := of_decide_eq_true p4
    exact fun r => by have := r.2.2.2; omega
  · have p1 := of_decide_eq_true p1
    have p2 : h ≤ 1000000 := by simpa using p2
    have p3 := of_decide_eq_false p3
    have p4 := of_decide_eq_false p4
    have r : InR h a b := ⟨p1, p2, by omega, by omega⟩
    clear out
    have e : IntKind.i64.wrap (10 * h) = 10 * h := wrap_in (by omega)
    rw [e]
    have q := quoP v r
    refine ⟨v, v, q, bcase_iff.mpr ⟨fun k => ?_, fun k => ?_⟩⟩
    · have k : ¬ okBy h a b := fun o => by rw [pick_t (show okF _ _ _ _ _ from o)] at k; exact absurd k (by decide)
      rw [pick_f (show ¬ okF _ _ _ _ _ from k)]
      exact ans_of3 (by_big v r k)
    · have o : okBy h a b := Decidable.byContradiction fun o => by
        rw [pick_f (show ¬ okF _ _ _ _ _ from o)] at k; exact absurd k (by decide)
      have b1 := q41_L o v r
      rw [gate_t (show okF _ _ _ _ _ from o), gate_t (show okF _ _ _ _ _ from o), wrap_in (n := 0 - qH (cL a b) (cH a b) (encL a b) (encH a b) (10 * h)) (by omega)]
      refine ⟨⟨by unfold Q41; omega, rfl⟩, ⟨by unfold Q41; omega, rfl⟩, ?_⟩
      rw [wrap_in (by omega)]
      obtain ⟨e1, e2, e3⟩ := by_yes v r o
      refine ans_of3 ⟨e1, ?_, e3⟩
      rw [e2]
      omega
  · have p1 := of_decide_eq_false p1
    exact fun r => p1 r.1
end Go.Proofs.YtofnffcdbbiohaaDoor
