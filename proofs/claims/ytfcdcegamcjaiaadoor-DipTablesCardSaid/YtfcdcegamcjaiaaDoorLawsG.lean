/- The laws of dip. -/
import Derived.Test.YtfcdcegamcjaiaaDoorCtG
namespace Go.Proofs.YtfcdcegamcjaiaaDoor
open Go Go.Abs Go.RowKit
set_option linter.unusedVariables false
set_option linter.unusedSimpArgs false
theorem s_Lw : Sound Tryd.prog Tabs ΓLw :=
  Sound.cons (by kernel_rfl) (fun args p v h _ => by unfold sYes at h; split at h <;> cases h; exact c_awake)
  (Sound.cons (by kernel_rfl) (fun args p v h _ => by unfold sDip at h; split at h <;> cases h; exact c_ddip st_tabs _)
  (Sound.cons (by kernel_rfl) (fun args p v h _ => by unfold sShort at h; split at h <;> cases h; exact c_dshort st_tabs _ _)
  (Sound.cons (by kernel_rfl) (fun args p v h _ => by unfold sHorizon at h; split at h <;> cases h; exact c_dhorizon st_tabs _)
  (Sound.cons (by kernel_rfl) (fun args p v h _ => by unfold sVisible at h; split at h <;> cases h; exact c_dvisible st_tabs _ _)
  (Sound.cons (by kernel_rfl) (fun args p v h _ => by unfold sDip at h; split at h <;> cases h; exact c_r19dip st_tabs _)
  (Sound.cons (by kernel_rfl) (fun args p v h _ => by unfold sShort at h; split at h <;> cases h; exact c_r19short st_tabs _ _)
  (Sound.cons (by kernel_rfl) (fun args p v h _ => by unfold sHorizon at h; split at h <;> cases h; exact c_r19horizon st_tabs _)
  (Sound.cons (by kernel_rfl) (fun args p v h _ => by unfold sVisible at h; split at h <;> cases h; exact c_r19visible st_tabs _ _)
  (Sound.rcons (by kernel_rfl) (fun ads p rds h hp => by unfold sTab at h; split at h <;> cases h; exact c_dtable _ hp.1 hp.2)
  (Sound.rcons (by kernel_rfl) (fun ads p rds h hp => by unfold sTab at h; split at h <;> cases h; exact c_r19table _ hp.1 hp.2)
  (Sound.rcons (by kernel_rfl) (fun ads p rds h hp => by unfold sEqS at h; split at h <;> cases h; exact c_eqS st_tabs _ _ hp.1 hp.2)
  (Sound.cons (by kernel_rfl) (fun args p v h hp => by unfold sPrint at h; split at h <;> cases h; exact c_print _ _)
  (Sound.cons (by kernel_rfl) (fun args p v h hp => by unfold sItoa at h; split at h <;> cases h; exact c_itoa _ hp) Sound.nil)))))))))))))
theorem law_dips (e d : Int) : Ans Tryd.prog Tabs 3 [num e, num d] (.bool true) := by
  refine ans_of (rfn_by st_tabs s_Lw (vc_dips e d) ?_)
  simp [bcase_iff]
theorem law_dist (e d : Int) : Ans Tryd.prog Tabs 7 [num e, num d] (.bool true) := by
  refine ans_of (rfn_by st_tabs s_Lw (vc_dist e d) ?_)
  simp [bcase_iff]
theorem tab_len (xs : List Int) : (tabL xs).length ≤ 1000 := by
  unfold tabL
  split
  · rename_i h; rw [List.length_map]; exact h.1
  · simp
theorem tkL {α : Type} {x : List α} {p : List α → Prop} (h : p x) : 0 + x.length ≤ x.length ∧ ∀ z, z = List.take x.length x → p z :=
  ⟨by omega, fun z hz => by rw [List.take_length] at hz; subst hz; exact h⟩
theorem law_tables (xs : List Int) (hx : ∀ x ∈ xs, I64 x) : RAns Tryd.prog Tabs 4 [.one (iR xs)] [.one (.v (.bool true))] := by
  refine rfn_by st_tabs s_Lw (vc_tables xs) ?_
  have t1 := tab_len xs
  have main : xs.length ≤ 1100 → (0 + xs.length ≤ xs.length ∧
    ∀ (z : List Int),
    z = List.take xs.length xs →
    ((∀ (x : Int), List.Mem x z → I64 x) ∧ z.length ≤ 9223372036854775807) ∧
    0 + xs.length ≤ xs.length ∧
    ∀ (z_1 : List Int),
    z_1 = List.take xs.length xs →
    ((∀ (x : Int), List.Mem x z_1 → I64 x) ∧ z_1.length ≤ 9223372036854775807) ∧
    0 + (tabL z).length ≤ (tabL z).length ∧
    ∀ (z_2 : List ByteArray), z_2 = List.take (tabL z).length (tabL z) → 0 + (tabL z_1).length ≤ (tabL z_1).length ∧ ∀ (z_3 : List ByteArray), z_3 = List.take (tabL z_1).length (tabL z_1) → (z_2.length ≤ 9223372036854775807 ∧ z_3.length ≤ 9223372036854775807) ∧ bcase (decide (z_2 = z_3)) (Value.bool (tabE z == tabE z_1) = Value.bool true ∧ True) (Value.bool false = Value.bool true ∧ True)) := fun hl => by
    refine tkL ⟨⟨hx, by omega⟩, tkL ⟨⟨hx, by omega⟩, tkL (tkL ⟨⟨by omega, by omega⟩, ?_⟩)⟩⟩
    rw [decide_eq_true rfl, bcase_true]
    exact ⟨by simp, trivial⟩
  refine ⟨trivial, bcase_iff.mpr ⟨fun a => bcase_iff.mpr ⟨fun b => ⟨rfl, trivial⟩, fun b => bcase_iff.mpr ⟨fun c => ⟨rfl, trivial⟩, fun c => main (by have := of_decide_eq_false c; omega)⟩⟩, fun a => bcase_iff.mpr ⟨fun c => ⟨rfl, trivial⟩, fun c => main (by have := of_decide_eq_false c; omega)⟩⟩⟩
theorem eyesT_len {xs : List Int} {i : Nat} (h : i ≤ xs.length) : (eyesT xs i).length = i := by unfold eyesT; simp; omega
theorem eyesT_succ {xs : List Int} {i : Nat} (h : i < xs.length) : eyesT xs (i + 1) = eyesT xs i ++ [xs.getD i 0 % 10001] := by
  unfold eyesT
  rw [List.take_succ_eq_append_getElem h, List.map_append]
  simp [List.getD, h]
theorem eyes_ok (xs : List Int) (i : Nat) : AllEye (eyesT xs i) := by
  intro x hx
  unfold eyesT at hx
  obtain ⟨y, _, rfl⟩ := List.mem_map.mp hx
  unfold Eye; omega
theorem eye_I64 {x : Int} (h : Eye x) : I64 x := by unfold Eye at h; unfold I64; omega
theorem cap8 {n : Nat} (h : n ≤ 1001) : capOk n 8 = true := by
  unfold capOk
  rw [show Nat.ble (n * 8) 140737488355328 = true from Nat.ble_eq_true_of_le (by omega), show Nat.ble n maxLen = true from Nat.ble_eq_true_of_le (by have : maxLen = 9223372036854775807 := rfl; omega)]
  rfl
theorem law_lines (xs : List Int) (hx : ∀ x ∈ xs, 0 ≤ x ∧ x ≤ 65535) : RAns Tryd.prog Tabs 6 [.one (.r 41 (.int .u16) xs)] [.one (.v (.bool true))] := by
  refine rfn_by st_tabs s_Lw (vc_lines xs) ⟨trivial, bcase_iff.mpr ⟨fun a => ⟨rfl, trivial⟩, fun a => ?_⟩⟩
  have a := of_decide_eq_false a
  refine ⟨0, ⟨rfl, rfl, rfl, rfl, rfl, rfl, rfl, trivial⟩, Nat.zero_le _, fun i i0 => ?_⟩
  have i0 : i ≤ xs.length := i0
  have ll := eyesT_len i0
  refine bcase_iff.mpr ⟨fun k => ?_, fun k => ?_⟩
  · have k : i < xs.length := by have := of_decide_eq_true k; omega
    rw [inB_yes (by omega) (by omega), bcase_true, Int.toNat_natCast, blt_yes k, bcase_true]
    have hb : 0 ≤ xs.getD i 0 ∧ xs.getD i 0 ≤ 65535 := by
      have : xs.getD i 0 = xs[i] := by simp [List.getD, k]
      rw [this]; exact hx _ (List.getElem_mem k)
    rw [ll, cap8 (by omega), bcase_true, wrap_in (n := xs.getD i 0) (by omega), wrap_in (n := (i : Int) + 1) (by omega), Int.tmod_eq_emod_of_nonneg hb.1]
    exact ⟨rfl, i + 1, ⟨rfl, by rw [eyesT_len k], by omega, rfl, rfl, by omega, rfl, by rw [eyesT_succ k], trivial⟩, k, by omega⟩
  have k : i = xs.length := by have := of_decide_eq_false k; omega
  subst k
  refine ⟨rfl, fun z hz => ?_⟩
  subst hz
  have ok := eyes_ok xs xs.length
  have len : (eyesT xs xs.length).length = xs.length := ll
  obtain ⟨t1, t2⟩ := tab_yes (xs := eyesT xs xs.length) (by omega) ok
  generalize eyesT xs xs.length = zs at *
  refine ⟨⟨fun x hx => eye_I64 (ok x hx), by omega⟩, ?_⟩
  have tl : (tabL zs).length = zs.length := by rw [t1, List.length_map]
  rw [t2, tl]
  refine bcase_iff.mpr ⟨(fun q => by cases q), fun _ => bcase_iff.mpr ⟨(fun q => by simp at q), fun _ => ?_⟩⟩
  refine ⟨0, ⟨rfl, rfl, rfl, rfl, rfl, rfl, rfl, rfl, trivial⟩, Nat.zero_le _, fun j j0 => ?_⟩
  have j0 : j ≤ xs.length := j0
  refine bcase_iff.mpr ⟨fun k => ?_, fun k => ⟨rfl, trivial⟩⟩
  have k : j < zs.length := by have := of_decide_eq_true k; omega
  rw [inB_yes (by omega) (by omega), bcase_true, Int.toNat_natCast, blt_yes k, bcase_true]
  have he : Eye (zs.getD j 0) := by
    have : zs.getD j 0 = zs[j] := by simp [List.getD, k]
    rw [this]; exact ok _ (List.getElem_mem k)
  obtain ⟨v1, v2, v3⟩ := dip_val he
  obtain ⟨g1, g2⟩ := line_long he
  have hl : (tabL zs).getD j (ByteArray.mk #[]) = lineB (zs.getD j 0) := by
    rw [t1]; simp [List.getD, k]
  rw [pick_yes he, gate_yes he, gate_yes he, pick_yes v1, pick_yes ⟨v2, v3⟩, bcase_true, g1, bcase_false, g2, bcase_false, hl]
  refine ⟨trivial, trivial, bcase_iff.mpr ⟨(fun q => by cases q), fun _ => bcase_iff.mpr ⟨(fun q => by cases q), fun _ => ⟨eye_I64 he, bcase_iff.mpr ⟨fun q => ?_, fun _ => ⟨j + 1, ⟨rfl, rfl, rfl, rfl, by rw [wrap_in (by omega)]; omega, rfl, rfl, rfl, trivial⟩, by show j + 1 ≤ xs.length; omega, by omega⟩⟩⟩⟩⟩⟩
  exfalso
  have : lineB (zs.getD j 0) = itoaB (zs.getD j 0) ++ ByteArray.mk #[32] ++ printB (dLo (zs.getD j 0)) (dHi (zs.getD j 0)) := rfl
  rw [this] at q
  simp at q
end Go.Proofs.YtfcdcegamcjaiaaDoor
