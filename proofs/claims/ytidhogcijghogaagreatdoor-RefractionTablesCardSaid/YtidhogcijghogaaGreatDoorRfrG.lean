/- Refraction: contracts of the reference's functions. -/
import Derived.Test.YtidhogcijghogaaGreatDoorRfrW
import Derived.Test.YtidhogcijghogaaGreatDoorRfrC
namespace Go.Proofs.YtidhogcijghogaaGreatDoor
open Go Go.Abs Go.RowKit
set_option linter.unusedVariables false
set_option linter.unusedSimpArgs false
variable {Φ : World → Prop} (hst : ∀ w w', Φ w → Below w.heap.size w w' → Φ w')
include hst
theorem c_r4ceil {n d : Int} (hn : I64 n) (hm : I64 (-n)) (hd : 0 < d) : Ans Tryz.prog Φ 50 [num n, num d] (num (-(-n / d))) := by
  have e := ediv_i64 hm hd
  have c := ediv_i64 hn hd
  have k : -9223372036854775807 ≤ -n := by unfold I64 at hn; omega
  have i : -9223372036854775807 ≤ -n / d := by
    apply (fl_iff hd).mpr
    have := Int.mul_le_mul_of_nonneg_left (show 1 ≤ d by omega) (show 0 ≤ (9223372036854775807 : Int) by decide)
    rw [Int.neg_mul]
    omega
  have hm' := hm
  unfold I64 at hm
  obtain ⟨e, _⟩ := e
  unfold I64 at e
  refine fn_by hst (Sound.cons (by kernel_rfl) (fun args p v h hp => by unfold sFl4 at h; split at h <;> cases h; exact c_r4floor hst hp.1 hp.2) Sound.nil) (vc_r4ceil n d _) ?_
  rw [wrap_in (n := 0 - n) (by omega), show 0 - n = -n by omega, wrap_in (n := 0 - -n / d) (by omega)]
  exact ⟨⟨hm', hd⟩, eq_num (by omega)⟩
theorem s_R4 : Sound Tryz.prog Φ ΓRp := Sound.cons (by kernel_rfl) (fun args p v h hp => by unfold sCe4 at h; split at h <;> cases h; exact c_r4ceil hst hp.1 hp.2.1 hp.2.2) Sound.nil
theorem c_r20bent {u : Int} (h : RU u) : Ans Tryz.prog Φ 30 [num u] (wid (bL u) (bH u)) := by
  refine fn_by hst (s_R4 hst) (vc_r20bent u _) ?_
  obtain ⟨r1, r2, r3, r4, r5, r6, r7, r8⟩ := b_range h
  have hu := h
  unfold RU at hu
  have e1 : Int.tdiv 26316000000 (u + 264000) = bq u := Int.tdiv_eq_ediv_of_nonneg (by decide)
  have e2 : -(-26316000000 / (u + 264000)) = cq u := rfl
  rw [wrap_in (n := u + 264000) (by omega), show (u + 264000 == 0) = false from beq_eq_false_iff_ne.mpr (by omega), bcase_false, e1, e2, wrap_in (n := bq u) (by omega), wrap_in (n := u + bq u) (by omega), wrap_in (n := u + cq u) (by omega)]
  exact ⟨⟨⟨by decide, by decide⟩, ⟨by decide, by decide⟩, by omega⟩, rfl⟩
theorem s_Rq20 : Sound Tryz.prog Φ ΓRq20 :=
  Sound.cons (by kernel_rfl) (fun args p v h hp => by unfold sBent at h; split at h <;> cases h; exact c_r20bent hst hp)
  (Sound.cons (by kernel_rfl) (fun args p v h hp => by unfold sR6Cos at h; split at h <;> cases h; exact c_r6Cos hst hp)
  (Sound.cons (by kernel_rfl) (fun args p v h hp => by unfold sR6Sin at h; split at h <;> cases h; exact c_r6Sin hst hp)
  (Sound.cons (by kernel_rfl) (fun args p v h hp => by unfold sQuo at h; split at h <;> cases h; exact c_r4quo hst hp.1 hp.2.1 hp.2.2.1 hp.2.2.2) Sound.nil)))
theorem c_r20one {u : Int} (h : RU u) : Ans Tryz.prog Φ 15 [num u] (wid (oneL u) (oneH u)) := by
  have v := (enc_pos_b h).2.2.2
  refine fn_by hst (s_Rq20 hst) (vc_r20one u _) ⟨h, v, v, quoB h, ?_⟩
  rw [gate_t (one_ok h), gate_t (one_ok h)]
  rfl
theorem s_RA20 : Sound Tryz.prog Φ ΓRA20 :=
  Sound.cons (by kernel_rfl) (fun args p v h hp => by unfold sFl4 at h; split at h <;> cases h; exact c_r4floor hst hp.1 hp.2)
  (Sound.cons (by kernel_rfl) (fun args p v h hp => by unfold sCe4 at h; split at h <;> cases h; exact c_r4ceil hst hp.1 hp.2.1 hp.2.2) Sound.nil)
end Go.Proofs.YtidhogcijghogaaGreatDoor
