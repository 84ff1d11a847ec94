/- The laws of wide that hold it against its reference. -/
import Derived.Test.YtmghbedgfnlpoaaVcV
import Derived.Test.YtmghbedgfnlpoaaCtV
namespace Go.Proofs.Ytmghbedgfnlpoaa
open Go Go.Abs Go.RowKit
set_option linter.unusedVariables false
set_option linter.unusedSimpArgs false
theorem sh_args : ∀ (args : List Value), ADSh (args.map fun x => AD.one (.v x)) args args
  | [] => rfl
  | a :: l => ⟨l, rfl, sh_args l⟩
theorem dr_args {w : World} : ∀ (args : List Value), CDRs w (flatCD (args.map fun x => AD.one (.v x))) args
  | [] => trivial
  | a :: l => ⟨rfl, dr_args l⟩
/-- A contract of values alone. -/
theorem ans_of {P : Program} {Φ : World → Prop} {f : FuncId} {args : List Value} {v : Value} (h : RAns P Φ f (args.map fun x => AD.one (.v x)) [.one (.v v)]) : Ans P Φ f args v := fun w hw => by
  refine (h w args args hw (sh_args args) (dr_args args)).mono ?_
  rintro e w' ⟨hb, rvs, rcells, gs, he, hs, hc, _⟩
  refine ⟨?_, hb⟩
  cases rvs with
  | nil => exact hs.elim
  | cons r rvs =>
    obtain ⟨cs, rfl, hs⟩ := hs
    cases rvs with
    | nil =>
      have : r = v := hc.1
      subst this
      exact he
    | cons _ _ => exact hs.elim
variable {Φ : World → Prop} (hst : ∀ w w', Φ w → Below w.heap.size w w' → Φ w')
include hst
theorem s_Ll : Sound Try.prog Φ ΓLl :=
  Sound.rcons (by kernel_rfl) (fun ads p rds h hp => by unfold sToWide at h; split at h <;> cases h; exact c_toWide hst _ _ hp)
    (Sound.rcons (by kernel_rfl) (fun ads p rds h hp => by unfold sQuotR at h; split at h <;> cases h; exact c_quotR hst _ _ _ _ hp.1 hp.2)
    (Sound.rcons (by kernel_rfl) (fun ads p rds h hp => by unfold sRootR at h; split at h <;> cases h; exact c_rootR hst _ _ hp)
    (Sound.cons (by kernel_rfl) (fun args p v h hp => by unfold sValidR at h; split at h <;> cases h; exact c_validR hst _ _)
    (Sound.rcons (by kernel_rfl) (fun ads p rds h hp => by unfold sCompareR at h; split at h <;> cases h; exact c_compareR hst _ _ _ _ hp.1 hp.2)
    (Sound.rcons (by kernel_rfl) (fun ads p rds h hp => by unfold sOfWide at h; split at h <;> cases h; exact c_ofWide hst _ _ hp.1 hp.2)
    (Sound.rcons (by kernel_rfl) (fun ads p rds h hp => by unfold sUp at h; split at h <;> cases h; exact c_up hst _ _ _ _ hp.1 hp.2.1 hp.2.2)
    (Sound.rcons (by kernel_rfl) (fun ads p rds h hp => by unfold sSqrt at h; split at h <;> cases h; exact c_sqrt hst _ hp.1 hp.2)
    (Sound.rcons (by kernel_rfl) (fun ads p rds h hp => by unfold sDown at h; split at h <;> cases h; exact c_down hst _ _ _ _ hp.1 hp.2.1 hp.2.2)
    (Sound.rcons (by kernel_rfl) (fun ads p rds h hp => by unfold sIsInt at h; split at h <;> cases h; exact c_isInt hst _ _ hp)
    (Sound.rcons (by kernel_rfl) (fun ads p rds h hp => by unfold sMinus at h; split at h <;> cases h; exact c_minus hst _ _ hp)
    (Sound.rcons (by kernel_rfl) (fun ads p rds h hp => by unfold sOfInt at h; split at h <;> cases h; exact c_ofInt hst _ hp)
    (Sound.rcons (by kernel_rfl) (fun ads p rds h hp => by unfold sMul at h; split at h <;> cases h; exact c_mul hst _ _ _ _ hp.1 hp.2.1 hp.2.2)
    (Sound.rcons (by kernel_rfl) (fun ads p rds h hp => by unfold sPlus at h; split at h <;> cases h; exact c_plus hst _ _ _ _ hp.1 hp.2) (s_L hst))))))))))))))
theorem law_products (a b : Int) (ha : I64 a) (hb : I64 b) : Ans Try.prog Φ 3 [num a, num b] (.bool true) := by
  refine ans_of (rfn_by hst (s_Ll hst) (vc_products a b) ?_)
  have ca := canN_dig (I64_40 ha)
  have cb := canN_dig (I64_40 hb)
  have pb : (a * b).natAbs ≤ 9223372036854775808 * 9223372036854775808 := by
    rw [Int.natAbs_mul]; unfold I64 at ha hb; exact Nat.mul_le_mul (by omega) (by omega)
  refine ⟨trivial, ⟨ha, hb⟩, ha, hb, tk (tk ⟨⟨ca, cb, ?_⟩, ?_⟩)⟩
  · unfold PrOk; rw [nv_dig, nv_dig, ← Int.natAbs_mul]; omega
  rw [numV_dig, numV_dig]
  refine tk ⟨canN_dig (by omega), ?_⟩
  rw [numV_dig]
  simp [bcase_iff]
theorem law_quotients (h l b : Int) (hh : I64 h) (hl : I64 l) (hb : I64 b) : Ans Try.prog Φ 4 [wid h l, num b] (.bool true) := by
  refine ans_of (rfn_by hst (s_Ll hst) (vc_quotients h l b) ?_)
  refine ⟨trivial, hb, hb, ⟨hh, hl⟩, bcase_iff.mpr ⟨fun q => ?_, fun q => ?_⟩⟩
  · have q : ¬ WV h l := by simpa using q
    have n : ∀ up, ¬ okQ h l b up := fun up k => q k.1
    simp only [gate_no (n false), gate_no (n true), pick_no q]
    simp [bcase_iff]
  · have q : WV h l := by simpa using q
    have n : ∀ up, gate (okQ h l b up) (quoI (val h l) b up) = gate (okQR (val h l) b up) (quoI (val h l) b up) := fun up => by
      by_cases k : okQR (val h l) b up
      · rw [gate_yes k, gate_yes (show okQ h l b up from ⟨q, k.1, k.2⟩)]
      · rw [gate_no k, gate_no (show ¬ okQ h l b up from fun e => k ⟨e.2.1, e.2.2⟩)]
    refine ⟨⟨q, hb⟩, ⟨q, hb⟩, ?_⟩
    rw [n false, n true]
    simp only [pick_yes q]
    simp [bcase_iff]
theorem law_roots (h l : Int) (hh : I64 h) (hl : I64 l) : Ans Try.prog Φ 5 [wid h l] (.bool true) := by
  refine ans_of (rfn_by hst (s_Ll hst) (vc_roots h l) ?_)
  refine ⟨trivial, trivial, ⟨hh, hl⟩, bcase_iff.mpr ⟨fun q => ?_, fun q => ?_⟩⟩
  · have q : ¬ WV h l := by simpa using q
    have n : ¬ okR h l := fun k => q k.1
    simp only [gate_no n, pick_no q]
    simp [bcase_iff]
  · have q : WV h l := by simpa using q
    have n : gate (okR h l) (rootI 61 (val h l) 0) = gate (0 ≤ h) (rootI 61 (val h l) 0) := by
      by_cases k : 0 ≤ h
      · rw [gate_yes k, gate_yes (show okR h l from ⟨q, k⟩)]
      · rw [gate_no k, gate_no (show ¬ okR h l from fun e => k e.2)]
    refine ⟨q, ?_⟩
    rw [n]
    simp only [pick_yes q]
    simp [bcase_iff]
theorem law_forms (h l n : Int) (hh : I64 h) (hl : I64 l) (hn : I64 n) : Ans Try.prog Φ 7 [wid h l, num n] (.bool true) := by
  refine ans_of (rfn_by hst (s_Ll hst) (vc_forms h l n) ?_)
  have cn := canN_dig (I64_40 hn)
  refine ⟨trivial, ⟨hh, hl⟩, trivial, bcase_iff.mpr ⟨fun q => ?_, fun _ => ⟨hn, tk ⟨cn, hn, ?_⟩⟩⟩⟩
  · exfalso; revert q; cases decide (WV h l) <;> decide
  have fn : F120 n := by unfold I64 at hn; unfold F120; omega
  rw [numV_dig]
  simp only [gate_yes fn, beq_self_eq_true, Bool.and_self, Bool.not_true, bcase_false, true_and]
  refine bcase_iff.mpr ⟨fun q => ?_, fun q => ?_⟩
  · have q : ¬ WV h l := by simpa using q
    have n : ¬ okI h l := fun k => q k.1
    simp only [gate_no n, pick_no q]
    simp [bcase_iff]
  have q : WV h l := by simpa using q
  obtain ⟨ih, il, vb⟩ := WV_I q
  refine ⟨⟨hh, hl⟩, tk ⟨canN_dig vb, ?_⟩⟩
  rw [numV_dig]
  simp only [pick_yes q]
  by_cases k : I64 (val h l)
  · have e : okI h l := ⟨q, k⟩
    simp only [gate_yes k, gate_yes e, pick_yes k]
    simp [bcase_iff, k]
  · have e : ¬ okI h l := fun e => k e.2
    simp only [gate_no k, gate_no e, pick_no k]
    simp [bcase_iff, k]
theorem law_sums (a b c d : Int) (ha : I64 a) (hb : I64 b) (hc : I64 c) (hd : I64 d) : Ans Try.prog Φ 10 [wid a b, wid c d] (.bool true) := by
  refine ans_of (rfn_by hst (s_Ll hst) (vc_sums a b c d) ?_)
  have no : ¬ two a b c d → ∀ v, ¬ ok2 a b c d v := fun k v e => k ⟨e.1, e.2.1⟩
  refine ⟨trivial, trivial, trivial, trivial, ⟨ha, hb⟩, bcase_iff.mpr ⟨fun q => ?_, fun q => ⟨⟨hc, hd⟩, bcase_iff.mpr ⟨fun q2 => ?_, fun q2 => ?_⟩⟩⟩⟩
  · have q : ¬ WV a b := by simpa using q
    have k : ¬ two a b c d := fun e => q e.1
    simp only [gate_no (no k _), gate_no k, pick_no k]
    simp [bcase_iff]
  · have q2 : ¬ WV c d := by simpa using q2
    have k : ¬ two a b c d := fun e => q2 e.2
    simp only [gate_no (no k _), gate_no k, pick_no k]
    simp [bcase_iff]
  have q : WV a b := by simpa using q
  have q2 : WV c d := by simpa using q2
  have k : two a b c d := ⟨q, q2⟩
  have yes : ∀ v x, gate (ok2 a b c d v) x = gate (F120 v) x := fun v x => by
    by_cases e : F120 v
    · rw [gate_yes e, gate_yes (show ok2 a b c d v from ⟨q, q2, e⟩)]
    · rw [gate_no e, gate_no (show ¬ ok2 a b c d v from fun h => e h.2.2)]
  obtain ⟨_, _, va⟩ := WV_I q
  obtain ⟨_, _, vc⟩ := WV_I q2
  have xa : (val a b).natAbs ≤ 1329227995784915872903807060280344576 := by have := WV_F120 q; unfold F120 at this; omega
  have xc : (val c d).natAbs ≤ 1329227995784915872903807060280344576 := by have := WV_F120 q2; unfold F120 at this; omega
  have ca := canN_dig va
  have cc := canN_dig vc
  refine ⟨⟨ha, hb⟩, ⟨hc, hd⟩, tk (tk ⟨⟨ca, cc⟩, ?_⟩)⟩
  rw [numV_dig, numV_dig]
  refine tk ⟨canN_dig (by omega), tk ⟨cc.1, tk (tk ⟨⟨ca, canN_neg cc⟩, ?_⟩)⟩⟩
  rw [numV_dig, numV_dig, numV_neg cc.1, numV_dig, ← Int.sub_eq_add_neg]
  refine tk ⟨canN_dig (by omega), ?_⟩
  rw [numV_dig, yes, yes, yes, yes, pick_yes k, pick_yes k, gate_yes k]
  simp only [beq_self_eq_true, Bool.and_self, bcase_true]
  refine tk (tk ⟨⟨ca, cc⟩, ?_⟩)
  rw [numV_dig, numV_dig, pick_yes k]
  simp [bcase_iff]
end Go.Proofs.Ytmghbedgfnlpoaa
