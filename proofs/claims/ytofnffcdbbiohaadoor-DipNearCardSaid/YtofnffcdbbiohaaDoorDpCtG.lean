/- The tables of dip and of its reference; the chapter's examples hold. -/
import Derived.Test.YtofnffcdbbiohaaDoorDpCtF
namespace Go.Proofs.YtofnffcdbbiohaaDoor.Dp
open Go Go.Abs Go.RowKit
set_option linter.unusedVariables false
set_option linter.unusedSimpArgs false
theorem c_textI (n : Int) (h : Fit n) : Ans Tryd.prog Tabs 33 [num n] (.string (textB n)) := by
  intro w hw
  unfold textB textL
  by_cases q : n < 0
  · rw [if_pos q]
    have := text_neg n.natAbs (by omega) (by unfold Fit at h; omega) w hw
    rwa [show (-(n.natAbs : Int)) = n by omega] at this
  · rw [if_neg q]
    have := text_pos n.natAbs (by unfold Fit at h; omega) w hw
    rwa [show ((n.natAbs : Nat) : Int) = n by omega] at this
theorem c_itoa (n : Int) (h : I64 n) : Ans Tryd.prog Tabs 24 [num n] (.string (itoaB n)) := fun w hw => itoa_any n h w hw
theorem s_Pr : Sound Tryd.prog Tabs ΓPr :=
  Sound.cons (by kernel_rfl) (fun args p v h _ => by unfold sVal at h; split at h <;> cases h; exact c_valid st_tabs _ _)
  (Sound.cons (by kernel_rfl) (fun args p v h hp => by unfold sFloor at h; split at h <;> cases h; exact c_floor st_tabs _ _ hp.1 hp.2)
  (Sound.cons (by kernel_rfl) (fun args p v h _ => by unfold sFits at h; split at h <;> cases h; exact c_fits st_tabs _)
  (Sound.cons (by kernel_rfl) (fun args p v h hp => by unfold sTextI at h; split at h <;> cases h; exact c_textI _ hp) Sound.nil)))
theorem c_print (a b : Int) : Ans Tryd.prog Tabs 23 [arc a b] (pair (.string (printB a b)) (num (pick (Val a b) (pick (Fit (rnd a) ∧ Fit (rnd b)) 0 5) 1))) := by
  refine fn_by st_tabs s_Pr (vc_print a b _) ?_
  by_cases h : Val a b
  · obtain ⟨h1, h2, h3⟩ := id h
    have w1 : IntKind.i64.wrap (a + 50) = a + 50 := wrap_in (by omega)
    have w2 : IntKind.i64.wrap (b + 50) = b + 50 := wrap_in (by omega)
    have w3 : IntKind.i64.wrap ((a + 50) / 100 * 100) = rnd a := by rw [wrap_in (by omega)]; rfl
    have w4 : IntKind.i64.wrap ((b + 50) / 100 * 100) = rnd b := by rw [wrap_in (by omega)]; rfl
    simp only [w1, w2, w3, w4]
    simp only [bcase_iff, true_and, and_true, decide_eq_true_eq, decide_eq_false_iff_not, Bool.not_eq_true', Bool.not_eq_false', Bool.not_true, Bool.not_false, beq_iff_eq, beq_eq_false_iff_ne, bne_iff_ne, ne_eq, bne_eq_false_iff_eq, Decidable.not_not, ge_iff_le, gt_iff_lt, Bool.not_eq_true, Bool.and_eq_true, Bool.or_eq_true, forall_const, imp_false, implies_true, Bool.true_eq_false, Bool.false_eq_true, false_implies, true_implies, Int.not_lt, Int.not_le, Int.zero_sub]
    refine ⟨fun q => absurd h q, fun _ => ⟨⟨by unfold I64; omega, by unfold Den; omega⟩, ⟨by unfold I64; omega, by unfold Den; omega⟩, fun q => ?_, fun f1 => ⟨fun q => ?_, fun f2 => ⟨fun e => ⟨f1, ?_⟩, fun e => ⟨f1, ?_, fun _ => ⟨f2, ?_, fun _ => ?_⟩⟩⟩⟩⟩⟩
    · unfold printB prints pick; simp [h, q]
    · unfold printB prints pick; simp [h, f1, q]
    · unfold printB prints pick printL; simp [h, f1, f2, e, textB]
    · have := textB_size f1
      simp [not_long (a := textB (rnd a)) (b := ByteArray.mk #[32, 46, 46, 32]) (by rw [sp_size]; omega)]
    · have h1 := textB_size f1
      have h2 := textB_size f2
      simp [not_long (a := textB (rnd a) ++ ByteArray.mk #[32, 46, 46, 32]) (b := textB (rnd b)) (by rw [ByteArray.size_append, sp_size]; omega)]
    · unfold printB prints pick printL textB
      simp only [h, f1, f2, e, if_false, true_and, if_true, and_self]
      rw [show (ByteArray.mk #[32, 46, 46, 32]) = ⟨[32, 46, 46, 32].toArray⟩ from rfl, bytes_app, bytes_app]
  · simp only [bcase_iff, true_and, and_true, decide_eq_true_eq, decide_eq_false_iff_not, Bool.not_eq_true', Bool.not_eq_false', Bool.not_true, Bool.not_false, beq_iff_eq, beq_eq_false_iff_ne, bne_iff_ne, ne_eq, bne_eq_false_iff_eq, Decidable.not_not, ge_iff_le, gt_iff_lt, Bool.not_eq_true, Bool.and_eq_true, Bool.or_eq_true, forall_const, imp_false, implies_true, Bool.true_eq_false, Bool.false_eq_true, false_implies, true_implies, Int.not_lt, Int.not_le, Int.zero_sub]
    refine ⟨fun q => ?_, fun q => absurd q h⟩
    unfold printB prints pick; simp [h]
theorem s_Tb : Sound Tryd.prog Tabs ΓTb :=
  Sound.cons (by kernel_rfl) (fun args p v h _ => by unfold sDip at h; split at h <;> cases h; exact c_ddip st_tabs _)
  (Sound.cons (by kernel_rfl) (fun args p v h hp => by unfold sPrint at h; split at h <;> cases h; exact c_print _ _)
  (Sound.cons (by kernel_rfl) (fun args p v h hp => by unfold sItoa at h; split at h <;> cases h; exact c_itoa _ hp) Sound.nil))
theorem s_T5 : Sound Tryd.prog Tabs ΓT5 :=
  Sound.nil
theorem dip_bd {n : Int} (h : Eye n) : 0 ≤ dLo n ∧ dLo n ≤ dHi n ∧ dHi n ≤ dLo n + 1 ∧ dHi n ≤ 17600 ∧ dLo n * dLo n ≤ 30976 * n ∧ 30976 * n < (dLo n + 1) * (dLo n + 1) := by
  unfold Eye at h
  have e : (176 * 176 * n : Int) = 30976 * n := by omega
  obtain ⟨s0, s1, s2⟩ := sq_spec (v := 176 * 176 * n) (by omega) (by omega)
  unfold dLo dHi rUp
  rw [e] at *
  have lt : sqI (30976 * n) < 17601 := sq_lt s0 (by decide) (by omega)
  refine ⟨s0, by split <;> omega, by split <;> omega, ?_, s1, s2⟩
  split
  · rename_i q
    have : sqI (30976 * n) < 17600 := sq_lt s0 (by decide) (by omega)
    omega
  · omega
theorem dip_val {n : Int} (h : Eye n) : Val (dLo n) (dHi n) ∧ Fit (rnd (dLo n)) ∧ Fit (rnd (dHi n)) := by
  obtain ⟨a, b, c, d, _, _⟩ := dip_bd h
  unfold Val Fit rnd
  omega
theorem print_size {a b : Int} (h : prints a b) : (printB a b).size ≤ 2199023255900 := by
  unfold printB printL
  rw [if_pos h]
  have h1 := textB_size h.2.1
  have h2 := textB_size h.2.2
  unfold textB at h1 h2
  rw [size_mk] at h1 h2 ⊢
  split
  · omega
  · simp; omega
theorem itoa_small {n : Int} (h : Eye n) : (itoaB n).size ≤ 10001 := by
  unfold Eye at h
  have e : n = ((n.natAbs : Nat) : Int) := by omega
  rw [e, itoa_pos, size_mk]
  have := dec_le n.natAbs
  omega
theorem linesT_succ {xs : List Int} {i : Nat} (h : i < xs.length) : linesT xs (i + 1) = linesT xs i ++ [lineB (xs.getD i 0)] := by
  unfold linesT
  rw [List.take_succ_eq_append_getElem h, List.map_append]
  simp [List.getD, h]
theorem linesT_len {xs : List Int} {i : Nat} (h : i ≤ xs.length) : (linesT xs i).length = i := by unfold linesT; simp; omega
theorem allEye_succ {xs : List Int} {i : Nat} (h : i < xs.length) (ha : AllEye (xs.take i)) (he : Eye (xs.getD i 0)) : AllEye (xs.take (i + 1)) := by
  rw [List.take_succ_eq_append_getElem h]
  intro x hx
  rcases List.mem_append.mp hx with q | q
  · exact ha x q
  · have : x = xs.getD i 0 := by simp [List.getD, h] at q ⊢; exact q
    rw [this]; exact he
theorem cap16 {n : Nat} (h : n ≤ 1001) : capOk n 16 = true := by
  unfold capOk
  rw [show Nat.ble (n * 16) 140737488355328 = true from Nat.ble_eq_true_of_le (by omega), show Nat.ble n maxLen = true from Nat.ble_eq_true_of_le (by have : maxLen = 9223372036854775807 := rfl; omega)]
  rfl
theorem inB_yes {j : Int} {n : Nat} (h0 : 0 ≤ j) (h1 : j < n) : inB j n = true := by unfold inB; simp [h0, h1]
theorem blt_yes {j n : Nat} (h : j < n) : j.blt n = true := Nat.ble_eq_true_of_le h
theorem notEye {xs : List Int} {i : Nat} (h : i < xs.length) (he : ¬ Eye (xs.getD i 0)) : ¬ AllEye xs := fun ha => he (by
  have : xs.getD i 0 = xs[i] := by simp [List.getD, h]
  rw [this]
  exact ha _ (List.getElem_mem h))
theorem tab_no {xs : List Int} (hl : xs.length ≤ 1000) (h : ¬ AllEye xs) : tabL xs = [] ∧ tabE xs = 2 := by
  unfold tabL tabE
  rw [if_neg (fun e => h e.2), if_neg (by omega), pick_no h]
  exact ⟨rfl, rfl⟩
theorem tab_big {xs : List Int} (hl : 1000 < xs.length) : tabL xs = [] ∧ tabE xs = 4 := by
  unfold tabL tabE
  rw [if_neg (fun e => by have := e.1; omega), if_pos hl]
  exact ⟨rfl, rfl⟩
theorem tab_yes {xs : List Int} (hl : xs.length ≤ 1000) (h : AllEye xs) : tabL xs = xs.map lineB ∧ tabE xs = 0 := by
  unfold tabL tabE
  rw [if_pos ⟨hl, h⟩, if_neg (by omega), pick_yes h]
  exact ⟨rfl, rfl⟩
theorem getD_I64 {xs : List Int} (h : ∀ x ∈ xs, I64 x) (i : Nat) : I64 (xs.getD i 0) := by
  by_cases q : i < xs.length
  · have : xs.getD i 0 = xs[i] := by simp [List.getD, q]
    rw [this]; exact h _ (List.getElem_mem q)
  · have : xs.getD i 0 = 0 := by simp [List.getD, q]
    rw [this]; unfold I64; omega
theorem line_long {n : Int} (h : Eye n) : tooLong (itoaB n) (ByteArray.mk #[32]) = false ∧ tooLong (itoaB n ++ ByteArray.mk #[32]) (printB (dLo n) (dHi n)) = false := by
  have h1 := itoa_small h
  have h2 := print_size (a := dLo n) (b := dHi n) (dip_val h)
  have h3 : (ByteArray.mk #[32]).size = 1 := rfl
  exact ⟨not_long (by omega), not_long (by rw [ByteArray.size_append]; omega)⟩
theorem c_dtable (xs : List Int) (hx : ∀ x ∈ xs, I64 x) (hl : xs.length ≤ 9223372036854775807) : RAns Tryd.prog Tabs 12 [.one (iR xs)] [.one (bR (tabL xs)), .one (.v (num (tabE xs)))] := by
  refine rfn_by st_tabs s_Tb (vc_dtable xs) ?_
  refine bcase_iff.mpr ⟨fun q => ?_, fun q => ?_⟩
  · have q := of_decide_eq_true q
    obtain ⟨e1, e2⟩ := tab_big (xs := xs) (by omega)
    rw [e1, e2]
    exact ⟨rfl, rfl, trivial⟩
  have q := of_decide_eq_false q
  have hl : xs.length ≤ 1000 := by omega
  refine ⟨0, ⟨rfl, rfl, rfl, rfl, rfl, rfl, rfl, trivial⟩, ⟨Nat.zero_le _, fun x hx => by cases hx⟩, fun i hi => ?_⟩
  obtain ⟨i0, ha⟩ := hi
  have ll := linesT_len i0
  refine bcase_iff.mpr ⟨fun k => ?_, fun k => ?_⟩
  · have k : i < xs.length := by have := of_decide_eq_true k; omega
    rw [inB_yes (by omega) (by omega), bcase_true, Int.toNat_natCast, blt_yes k, bcase_true]
    have hi64 := getD_I64 hx i
    refine ⟨trivial, bcase_iff.mpr ⟨fun p => ?_, fun p => ?_⟩⟩
    · by_cases he : Eye (xs.getD i 0)
      · rw [pick_yes he] at p; cases p
      · obtain ⟨e1, e2⟩ := tab_no hl (notEye k he)
        rw [e1, e2, pick_no he]
        exact ⟨rfl, rfl, trivial⟩
    · have he : Eye (xs.getD i 0) := by
        by_cases he : Eye (xs.getD i 0)
        · exact he
        · rw [pick_no he] at p; cases p
      obtain ⟨v1, v2, v3⟩ := dip_val he
      obtain ⟨g1, g2⟩ := line_long he
      rw [gate_yes he, gate_yes he, pick_yes v1, pick_yes ⟨v2, v3⟩, g1, bcase_false, g2, bcase_false, ll, cap16 (by omega), bcase_true, wrap_in (by omega)]
      refine ⟨trivial, bcase_iff.mpr ⟨(fun e => by cases e), fun _ => ⟨hi64, rfl, i + 1, ⟨rfl, by rw [linesT_len k], by omega, rfl, rfl, by omega, rfl, by rw [linesT_succ k]; rfl, trivial⟩, ⟨k, allEye_succ k ha he⟩, by omega⟩⟩⟩
  · have k : i = xs.length := by have := of_decide_eq_false k; omega
    subst k
    rw [List.take_length] at ha
    obtain ⟨e1, e2⟩ := tab_yes hl ha
    rw [e1, e2]
    exact ⟨rfl, by unfold linesT; rw [List.take_length], rfl, trivial⟩
theorem sh_args : ∀ (args : List Value), ADSh (args.map fun x => AD.one (.v x)) args args
  | [] => rfl
  | a :: l => ⟨l, rfl, sh_args l⟩
theorem dr_args {w : World} : ∀ (args : List Value), CDRs w (flatCD (args.map fun x => AD.one (.v x))) args
  | [] => trivial
  | a :: l => ⟨rfl, dr_args l⟩
/-- The answer of a contract whose only result is a value. -/
theorem one_of {B : Nat} {w w' : World} {e : Ending} {v : Value} {cells : List Value} (h : Below B w w' ∧ ∃ rvs rcells gs, e = .returned (Go.Abs.oneV rvs) ∧ ADSh [.one (.v v)] rvs rcells ∧ CDN B w' cells (flatCD [.one (.v v)]) rcells gs ∧ gs.Nodup) : e = .returned v ∧ Below B w w' := by
  obtain ⟨hb, rvs, rcells, gs, he, hs, hc, _⟩ := h
  refine ⟨?_, hb⟩
  cases rvs with
  | nil => exact hs.elim
  | cons r rvs =>
    obtain ⟨cs, rfl, hs⟩ := hs
    cases rvs with
    | nil =>
      have : r = v := hc.1
      subst this
      exact he
    | cons _ _ => exact hs.elim
/-- A contract of values alone. -/
theorem ans_of {P : Program} {Φ : World → Prop} {f : FuncId} {args : List Value} {v : Value} (h : RAns P Φ f (args.map fun x => AD.one (.v x)) [.one (.v v)]) : Ans P Φ f args v := fun w hw =>
  (h w args args hw (sh_args args) (dr_args args)).mono fun _ _ q => one_of q
theorem s_Aw : Sound Tryd.prog Tabs (ΓAw tabL tabE) :=
  Sound.cons (by kernel_rfl) (fun args p v h _ => by unfold sDip at h; split at h <;> cases h; exact c_ddip st_tabs _)
  (Sound.cons (by kernel_rfl) (fun args p v h _ => by unfold sShort at h; split at h <;> cases h; exact c_dshort st_tabs _ _)
  (Sound.cons (by kernel_rfl) (fun args p v h _ => by unfold sVisible at h; split at h <;> cases h; exact c_dvisible st_tabs _ _)
  (Sound.rcons (by kernel_rfl) (fun ads p rds h hp => by unfold sTabC at h; split at h <;> cases h; exact c_dtable _ hp.1 hp.2)
  (Sound.rcons (by kernel_rfl) (fun ads p rds h hp => by unfold sEqS at h; split at h <;> cases h; exact c_eqS st_tabs _ _ hp.1 hp.2) Sound.nil))))
theorem dec1000 : Lib.decDigits 1000 = [49, 48, 48, 48] := by
  rw [dec_ge 1000 (by omega), show 1000 / 10 = 100 from rfl, dec_ge 100 (by omega), show 100 / 10 = 10 from rfl, dec_ge 10 (by omega), show 10 / 10 = 1 from rfl, dec_lt 1 (by omega)]
  rfl
theorem line1000 : lineB 1000 = ByteArray.mk #[49, 48, 48, 48, 32, 48, 45, 48, 53, 46, 54] := by
  have e1 : itoaB 1000 = ⟨[49, 48, 48, 48].toArray⟩ := by
    have := itoa_pos 1000
    rw [dec1000] at this
    exact this
  have e2 : dLo 1000 = 5565 := by decide +kernel
  have e3 : dHi 1000 = 5566 := by decide +kernel
  have pr : prints 5565 5566 := by decide
  have e4 : printB 5565 5566 = ⟨[48, 45, 48, 53, 46, 54].toArray⟩ := by
    unfold printB
    rw [if_pos pr]
    unfold printL
    rw [if_pos (by decide)]
    have : rnd 5565 = 5600 := by decide
    rw [this]
    unfold textL
    rw [if_neg (by decide)]
    unfold coreL padL
    rw [show (5600 : Int).natAbs = 5600 from rfl, show 5600 / 60000 = 0 from rfl, show 5600 % 60000 / 1000 = 5 from rfl, show 5600 % 1000 / 100 = 6 from rfl, if_pos (by decide), dec_lt 0 (by omega), dec_lt 5 (by omega), dec_lt 6 (by omega)]
    rfl
  unfold lineB
  rw [e1, e2, e3, e4, bytes_app, bytes_app]
  rfl
theorem c_awake : Ans Tryd.prog Tabs 4 [] (.bool true) := by
  refine ans_of (args := []) (rfn_by st_tabs s_Aw (vc_awake tabL tabE) ?_)
  have ok : AllEye [1000] := by decide
  obtain ⟨e1, e2⟩ := tab_yes (xs := [1000]) (by decide) ok
  rw [e1, e2]
  refine ⟨trivial, trivial, trivial, ⟨fun x hx => ?_, by omega⟩, ?_⟩
  · have hx : x ∈ [(1000 : Int)] := hx
    have : x = 1000 := by simpa using hx
    subst this; unfold I64; omega
  · refine bcase_iff.mpr ⟨fun _ => ⟨by simp, fun z hz => ?_⟩, fun q => by cases q⟩
    rw [List.take_length] at hz
    subst hz
    refine ⟨⟨by simp, by omega⟩, ?_, trivial⟩
    rw [List.map_cons, List.map_nil, line1000]
    congr 1
end Go.Proofs.YtofnffcdbbiohaaDoor.Dp
