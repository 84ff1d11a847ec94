/- The reference's functions over wide integers. -/
import Derived.Test.YtmghbedgfnlpoaaDoorCtU
import Derived.Test.YtmghbedgfnlpoaaDoorLawsN
namespace Go.Proofs.YtmghbedgfnlpoaaDoor
open Go Go.Abs Go.RowKit
set_option linter.unusedVariables false
set_option linter.unusedSimpArgs false
/-- The digits by their own name. -/
def dg (n : Int) : List Int := dig n.natAbs
theorem dvI_drop_le {l : List Int} (h : Dgs l) (i : Nat) : 0 ≤ dvI (l.drop i) ∧ dvI (l.drop i) ≤ dvI l := by
  have h1 := dvI_nonneg (Dgs_drop h i)
  refine ⟨h1, ?_⟩
  rcases Nat.lt_or_ge l.length i with q | q
  · rw [List.drop_eq_nil_of_le (by omega)]; exact dvI_nonneg h
  · have e := dvI_append (l.take i) (l.drop i)
    rw [List.take_append_drop] at e
    have h2 := dvI_nonneg (Dgs_take h i)
    have p : (1 : Int) ≤ 268435456 ^ (l.take i).length := Int.pow_pos (by decide)
    have := Int.mul_le_mul_of_nonneg_right p h1
    omega
theorem sgI_num {l : List Int} (s : Bool) (h : Dgs l) : sgI s (dvI l) = numV l s := by
  unfold sgI numV; rw [nv_cast h]
theorem ord_neg (x y : Int) : ordI x y < 0 ↔ x < y := by
  unfold ordI
  by_cases a : x < y
  · rw [if_pos a]; exact ⟨fun _ => a, fun _ => by decide⟩
  · rw [if_neg a]
    by_cases b : y < x
    · rw [if_pos b]; omega
    · rw [if_neg b]; omega
theorem ord_pos (x y : Int) : ordI x y > 0 ↔ y < x := by
  unfold ordI
  by_cases a : x < y
  · rw [if_pos a]; omega
  · rw [if_neg a]
    by_cases b : y < x
    · rw [if_pos b]; omega
    · rw [if_neg b]; omega
variable {Φ : World → Prop} (hst : ∀ w w', Φ w → Below w.heap.size w w' → Φ w')
include hst
theorem s_ofInt : ∀ ads p rds, sOfIntC dg ads = some (p, rds) → p → RAns Tryd.prog Φ 39 ads rds := fun ads p rds h hp => by
  unfold sOfIntC at h; split at h <;> cases h; exact c_ofInt hst _ hp
theorem s_Is : Sound Tryd.prog Φ (ΓIs dg) :=
  Sound.rcons (by kernel_rfl) (s_ofInt hst)
    (Sound.nil)
theorem s_Ow : Sound Tryd.prog Φ (ΓOw dg) :=
  Sound.rcons (by kernel_rfl) (s_ofInt hst)
    (Sound.rcons (by kernel_rfl) (fun ads p rds h hp => by unfold sMul at h; split at h <;> cases h; exact c_mul hst _ _ _ _ hp.1 hp.2.1 hp.2.2)
    (Sound.rcons (by kernel_rfl) (fun ads p rds h hp => by unfold sPlus at h; split at h <;> cases h; exact c_plus hst _ _ _ _ hp.1 hp.2) Sound.nil))
omit hst in
theorem halfN : CanN (dg 1152921504606846976) (decide ((1152921504606846976 : Nat) < 0)) ∧ numV (dg 1152921504606846976) (decide ((1152921504606846976 : Nat) < 0)) = 1152921504606846976 ∧ nv (dg 1152921504606846976) = 1152921504606846976 :=
  ⟨canN_dig (v := 1152921504606846976) (by decide), numV_dig 1152921504606846976, nv_dig _⟩
omit hst in
theorem numV_dg (v : Int) : numV (dg v) (decide (v < 0)) = v := numV_dig v
omit hst in
theorem nv_dg (v : Int) : nv (dg v) = v.natAbs := nv_dig _
theorem c_ofWide (h l : Int) (hh : I64 h) (hl : I64 l) : RAns Tryd.prog Φ 19 [oneV (wid h l)] [numR (val h l)] := by
  refine rfn_by hst (s_Ow hst) (vc_ofWide dg h l) ?_
  obtain ⟨f1, f2, f3⟩ := halfN
  have a1 : CanN (dg h) (decide (h < 0)) := canN_dig (I64_40 hh)
  have a2 : CanN (dg l) (decide (l < 0)) := canN_dig (I64_40 hl)
  have hb : h.natAbs ≤ 9223372036854775808 := by unfold I64 at hh; omega
  have mb : (h * 1152921504606846976).natAbs < 268435456 ^ 40 := by omega
  refine ⟨hh, by unfold I64; omega, tk (tk ⟨⟨a1, f1, ?_⟩, hl, ?_⟩)⟩
  · unfold PrOk; rw [f3, nv_dg]; omega
  rw [f2, numV_dg]
  refine tk (tk ⟨⟨canN_dig mb, a2⟩, ?_⟩)
  rw [numV_dig, numV_dg]
  exact tke rfl ⟨rfl, trivial⟩
theorem s_Tw : Sound Tryd.prog Φ (ΓTw dg) :=
  s_Ow hst
theorem s_Qr : Sound Tryd.prog Φ (ΓQr dg) :=
  Sound.rcons (by kernel_rfl) (fun ads p rds h hp => by unfold sOfWide at h; split at h <;> cases h; exact c_ofWide hst _ _ hp.1 hp.2)
    (s_Tw hst)
omit hst in
theorem WV_I {h l : Int} (hv : WV h l) : I64 h ∧ I64 l ∧ (val h l).natAbs < 268435456 ^ 40 := by unfold WV at hv; unfold I64 val; omega
theorem c_validR (h l : Int) : Ans Tryd.prog Φ 6 [wid h l] (.bool (decide (WV h l))) := by
  refine fn_by hst Sound.nil (vc_validR h l _) ?_
  unfold WV
  refine bcase_iff.mpr ⟨fun a => bcase_iff.mpr ⟨fun b => bcase_iff.mpr ⟨fun c => ?_, fun c => ?_⟩, fun b => ?_⟩, fun a => ?_⟩
  · have a := of_decide_eq_true a; have b := of_decide_eq_true b; have c := of_decide_eq_true c
    congr 1
    exact decide_eq_decide.mpr (by omega)
  · have c := of_decide_eq_false c
    congr 1; symm; exact decide_eq_false (by omega)
  · have c := of_decide_eq_false b
    congr 1; symm; exact decide_eq_false (by omega)
  · have c := of_decide_eq_false a
    congr 1; symm; exact decide_eq_false (by omega)
end Go.Proofs.YtmghbedgfnlpoaaDoor
