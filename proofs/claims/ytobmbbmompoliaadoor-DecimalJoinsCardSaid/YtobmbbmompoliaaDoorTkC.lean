/- Tokens: the program's contract. -/
import Derived.Test.YtobmbbmompoliaaDoorTkV
namespace Go.Proofs.YtobmbbmompoliaaDoor
open Go Go.Abs Go.RowKit
set_option linter.unusedVariables false
set_option linter.unusedSimpArgs false
theorem cap40 {n : Nat} (h : n ≤ 65537) : capOk n 40 = true := by
  unfold capOk
  rw [show Nat.ble (n * 40) 140737488355328 = true from Nat.ble_eq_true_of_le (by omega), show Nat.ble n maxLen = true from Nat.ble_eq_true_of_le (by have : maxLen = 9223372036854775807 := rfl; omega)]
  rfl
theorem inB_nat {i n : Nat} (h : i < n) : inB (i : Int) n = true := by unfold inB; simp [h]
theorem leaf0 {s : ByteArray} {i : Nat} {line col : Int} {out : List Tok} {e : Nat} {x c : Int} (t : TI s i line col out) (h : i < s.size) (ht : tokE s i = (0, e)) (hx : x = (e : Int)) (hc : c = col + ((e - i : Nat) : Int)) :
    ∃ y : Nat × Int × Int × List Tok, (s = s ∧ out.length = y.2.2.2.length ∧ Int.ofNat 0 = 0 ∧ Int.ofNat 0 = 0 ∧ s = s ∧ x = (y.1 : Int) ∧ line = y.2.1 ∧ c = y.2.2.1 ∧ out = y.2.2.2 ∧ True) ∧ TI s y.1 y.2.1 y.2.2.1 y.2.2.2 ∧ s.size - y.1 < s.size - i := by
  have hb := tokE_is h
  rw [ht] at hb
  dsimp only at hb
  have q := ti_step t h ht (by decide)
  rw [if_neg (by decide), if_neg (by decide)] at q
  exact ⟨(e, line, col + ((e - i : Nat) : Int), out), ⟨rfl, rfl, rfl, rfl, rfl, hx, rfl, hc, rfl, trivial⟩, q, by dsimp only; omega⟩
theorem leafK {s : ByteArray} {i : Nat} {line col : Int} {out : List Tok} {e : Nat} {k x c : Int} {tx : ByteArray} (t : TI s i line col out) (h : i < s.size) (ht : tokE s i = (k, e)) (hk : k = 1 ∨ k = 2 ∨ k = 3) (hx : x = (e : Int)) (hc : c = col + ((e - i : Nat) : Int)) (he : tx = s.extract i e) :
    ∃ y : Nat × Int × Int × List Tok, (s = s ∧ out.length + 1 = y.2.2.2.length ∧ out.length + 1 ≠ 0 ∧ Int.ofNat 0 = 0 ∧ Int.ofNat 0 = 0 ∧ s = s ∧ x = (y.1 : Int) ∧ line = y.2.1 ∧ c = y.2.2.1 ∧ out ++ [(k, tx, line, col)] = y.2.2.2 ∧ True) ∧ TI s y.1 y.2.1 y.2.2.1 y.2.2.2 ∧ s.size - y.1 < s.size - i := by
  have hb := tokE_is h
  rw [ht] at hb
  dsimp only at hb
  have q := ti_step t h ht (by omega)
  have ha : addT s i k e line col out = out ++ [(k, tx, line, col)] := by
    unfold addT
    rw [if_neg (by omega), if_neg (by omega), he]
    rfl
  rw [if_neg (by omega), if_neg (by omega), ha] at q
  exact ⟨(e, line, col + ((e - i : Nat) : Int), out ++ [(k, tx, line, col)]), ⟨rfl, by simp, by omega, rfl, rfl, rfl, hx, rfl, hc, rfl, trivial⟩, q, by dsimp only; omega⟩
theorem leaf4 {s : ByteArray} {i : Nat} {line col : Int} {out : List Tok} {e : Nat} {x l : Int} (t : TI s i line col out) (h : i < s.size) (ht : tokE s i = (4, e)) (hx : x = (e : Int)) (hl : l = line + 1) :
    ∃ y : Nat × Int × Int × List Tok, (s = s ∧ out.length + 1 = y.2.2.2.length ∧ out.length + 1 ≠ 0 ∧ Int.ofNat 0 = 0 ∧ Int.ofNat 0 = 0 ∧ s = s ∧ x = (y.1 : Int) ∧ l = y.2.1 ∧ 1 = y.2.2.1 ∧ out ++ [(4, ByteArray.mk #[], line, col)] = y.2.2.2 ∧ True) ∧ TI s y.1 y.2.1 y.2.2.1 y.2.2.2 ∧ s.size - y.1 < s.size - i := by
  have hb := tokE_is h
  rw [ht] at hb
  dsimp only at hb
  have q := ti_step t h ht (by decide)
  rw [if_pos rfl, if_pos rfl] at q
  exact ⟨(e, line + 1, 1, out ++ [(4, ByteArray.mk #[], line, col)]), ⟨rfl, by simp, by omega, rfl, rfl, rfl, hx, hl, rfl, rfl, trivial⟩, q, by dsimp only; omega⟩
theorem run_loop {p : Int → Bool} {s : ByteArray} {a : Nat} {x : Int} (F : Value) (I line col : Int) (out : List Tok) (hs : s.size ≤ 65536) (hx : x = (a : Int)) (ha : a ≤ s.size) :
    ∃ n : Nat, (x = x ∧ F = F ∧ x = (n : Int) ∧ Int.ofNat 0 = 0 ∧ Int.ofNat 0 = 0 ∧ s = s ∧ I = I ∧ line = line ∧ col = col ∧ out = out ∧ True) ∧ RunI p s a n ∧ ∀ m : Nat, RunI p s a m →
      bcase (decide ((m : Int) < (s.size : Int)))
        (bcase (inB (m : Int) s.size)
          (True ∧ bcase (p ((s.get! (m : Int).toNat).toNat : Int))
            (∃ y : Nat, (x = x ∧ F = F ∧ IntKind.i64.wrap ((m : Int) + 1) = (y : Int) ∧ Int.ofNat 0 = 0 ∧ Int.ofNat 0 = 0 ∧ s = s ∧ I = I ∧ line = line ∧ col = col ∧ out = out ∧ True) ∧ RunI p s a y ∧ s.size - y < s.size - m)
            (∃ y : Nat, (x = x ∧ F = F ∧ (m : Int) = (runE p s a : Int) ∧ Int.ofNat 0 = 0 ∧ Int.ofNat 0 = 0 ∧ s = s ∧ I = I ∧ line = line ∧ col = col ∧ out = out ∧ True) ∧ True))
          False)
        (∃ y : Nat, (x = x ∧ F = F ∧ (m : Int) = (runE p s a : Int) ∧ Int.ofNat 0 = 0 ∧ Int.ofNat 0 = 0 ∧ s = s ∧ I = I ∧ line = line ∧ col = col ∧ out = out ∧ True) ∧ True) := by
  refine ⟨a, ⟨rfl, rfl, hx, rfl, rfl, rfl, rfl, rfl, rfl, rfl, trivial⟩, ⟨Nat.le_refl _, ha, fun k h1 h2 => by omega⟩, fun m hm => ?_⟩
  obtain ⟨m1, m2, m3⟩ := hm
  refine bcase_iff.mpr ⟨fun q => ?_, fun q => ?_⟩
  · have q : m < s.size := by have := of_decide_eq_true q; omega
    rw [inB_nat q, bcase_true, Int.toNat_natCast]
    refine ⟨trivial, bcase_iff.mpr ⟨fun c => ?_, fun c => ?_⟩⟩
    · refine ⟨m + 1, ⟨rfl, rfl, ?_, rfl, rfl, rfl, rfl, rfl, rfl, rfl, trivial⟩, ⟨by omega, by omega, fun k h1 h2 => ?_⟩, by omega⟩
      · rw [wrap_in (by omega)]; omega
      · by_cases e : k = m
        · rw [e]; exact c
        · exact m3 k h1 (by omega)
    · have r : Run p s a m := ⟨m1, m2, m3, fun _ => c⟩
      exact ⟨0, ⟨rfl, rfl, by rw [run_eq r], rfl, rfl, rfl, rfl, rfl, rfl, rfl, trivial⟩, trivial⟩
  · have q := of_decide_eq_false q
    have r : Run p s a m := ⟨m1, m2, m3, fun h => by omega⟩
    exact ⟨0, ⟨rfl, rfl, by rw [run_eq r], rfl, rfl, rfl, rfl, rfl, rfl, rfl, trivial⟩, trivial⟩
theorem bt_u8 (s : ByteArray) (i : Nat) : 0 ≤ bt s i ∧ bt s i ≤ 255 := by
  unfold bt
  have : (s.get! i).toNat < 256 := UInt8.toNat_lt _
  omega
theorem sym_all : ∀ c : Fin 256, (decide (symIx (c.val : Int) ≥ 0)) = symI (c.val : Int) := by decide +kernel
theorem sym_is {c : Int} (h : 0 ≤ c ∧ c ≤ 255) : decide (symIx c ≥ 0) = symI c := by
  obtain ⟨n, rfl⟩ := Int.eq_ofNat_of_zero_le h.1
  exact sym_all ⟨n, by omega⟩
theorem u8_cast (b : UInt8) : ((b.toNat : Int)) = (b.toNat : Int) := rfl
section
variable {Φ : World → Prop} (hst : ∀ w w', Φ w → Below w.heap.size w w' → Φ w')
include hst
theorem c_dcletter (c : Int) : Ans Tryd.prog Φ 29 [.int .u8 c] (.bool (ltrI c)) := by
  refine fn_by hst Sound.nil (vc_dcletter c _) ?_
  unfold ltrI
  simp only [bcase_iff, true_and, and_true, decide_eq_true_eq, decide_eq_false_iff_not, Bool.not_eq_true', Bool.not_eq_false', Bool.not_true, Bool.not_false, beq_iff_eq, beq_eq_false_iff_ne, bne_iff_ne, ne_eq, bne_eq_false_iff_eq, Decidable.not_not, ge_iff_le, gt_iff_lt, Bool.not_eq_true, Bool.and_eq_true, Bool.or_eq_true, forall_const, imp_false, implies_true, Bool.true_eq_false, Bool.false_eq_true, false_implies, true_implies, Int.not_lt, Int.not_le, Int.zero_sub]
  repeat' (first | intro _ | apply And.intro)
  all_goals (try (repeat' (first | exact rfl | apply eq_pair | apply eq_arc | apply eq_num | apply eq_dec | apply eq_no | apply eq_yes)))
  all_goals omega
theorem c_dcdigit (c : Int) : Ans Tryd.prog Φ 24 [.int .u8 c] (.bool (digI c)) := by
  refine fn_by hst Sound.nil (vc_dcdigit c _) ?_
  unfold digI
  simp only [bcase_iff, true_and, and_true, decide_eq_true_eq, decide_eq_false_iff_not, Bool.not_eq_true', Bool.not_eq_false', Bool.not_true, Bool.not_false, beq_iff_eq, beq_eq_false_iff_ne, bne_iff_ne, ne_eq, bne_eq_false_iff_eq, Decidable.not_not, ge_iff_le, gt_iff_lt, Bool.not_eq_true, Bool.and_eq_true, Bool.or_eq_true, forall_const, imp_false, implies_true, Bool.true_eq_false, Bool.false_eq_true, false_implies, true_implies, Int.not_lt, Int.not_le, Int.zero_sub]
  repeat' (first | intro _ | apply And.intro)
  all_goals (try (repeat' (first | exact rfl | apply eq_pair | apply eq_arc | apply eq_num | apply eq_dec | apply eq_no | apply eq_yes)))
  all_goals omega
theorem c_dctok1 (c : Int) : Ans Tryd.prog Φ 28 [.int .u8 c] (.bool (nlI c)) := by
  refine fn_by hst Sound.nil (vc_dctok1 c _) ?_
  unfold nlI
  exact congrArg Value.bool (by unfold bne; congr 1)
theorem c_dcword (c : Int) : Ans Tryd.prog Φ 30 [.int .u8 c] (.bool (wordI c)) := by
  refine fn_by hst (Sound.cons (by kernel_rfl) (fun args p v h _ => by unfold sByte at h; split at h <;> cases h; exact c_dcletter hst _) (Sound.cons (by kernel_rfl) (fun args p v h _ => by unfold sByte at h; split at h <;> cases h; exact c_dcdigit hst _) Sound.nil)) (vc_dcword c _) ?_
  unfold wordI
  refine ⟨trivial, bcase_iff.mpr ⟨fun q => ?_, fun q => ⟨trivial, bcase_iff.mpr ⟨fun r => ?_, fun r => ?_⟩⟩⟩⟩
  · rw [q]; rfl
  · rw [q, r]; rfl
  · rw [q, r]
    exact congrArg Value.bool (by rw [Bool.eq_iff_iff]; simp)
end
theorem tok_size {s : ByteArray} (h : s.size ≤ 65536) : tokL s = (toksOf s).toks ∧ tokLine s = (toksOf s).line ∧ tokCol s = (toksOf s).col ∧ tokErr s = (toksOf s).err := by
  unfold tokL tokLine tokCol tokErr
  rw [if_neg (by omega), if_neg (by omega), if_neg (by omega), if_neg (by omega)]
  exact ⟨rfl, rfl, rfl, rfl⟩
theorem tok_big {s : ByteArray} (h : 65536 < s.size) : tokL s = [] ∧ tokLine s = 0 ∧ tokCol s = 0 ∧ tokErr s = 4 := ⟨if_pos h, if_pos h, if_pos h, if_pos h⟩
theorem tok_bad {s : ByteArray} (hs : s.size ≤ 65536) {i : Nat} {line col : Int} {out : List Tok} (t : TI s i line col out) (h : i < s.size) (hk : (tokE s i).1 < 0) :
    [] = tokL s ∧ Value.int IntKind.i64 line = Value.int IntKind.i64 (tokLine s) ∧ Value.int IntKind.i64 col = Value.int IntKind.i64 (tokCol s) ∧ Value.int IntKind.i64 7 = Value.int IntKind.i64 (tokErr s) ∧ True := by
  obtain ⟨a, b, c, d⟩ := tok_size hs
  rw [a, b, c, d, t.is, toksA_bad h hk]
  exact ⟨rfl, rfl, rfl, rfl, trivial⟩
theorem tok_end {s : ByteArray} (hs : s.size ≤ 65536) {i : Nat} {line col : Int} {out : List Tok} (t : TI s i line col out) (h : s.size ≤ i) :
    out ++ [(5, ByteArray.mk #[], line, col)] = tokL s ∧ Value.int IntKind.i64 0 = Value.int IntKind.i64 (tokLine s) ∧ Value.int IntKind.i64 0 = Value.int IntKind.i64 (tokCol s) ∧ Value.int IntKind.i64 0 = Value.int IntKind.i64 (tokErr s) ∧ True := by
  obtain ⟨a, b, c, d⟩ := tok_size hs
  rw [a, b, c, d, t.is, toksA_end h]
  exact ⟨rfl, rfl, rfl, rfl, trivial⟩
theorem run_le {p : Int → Bool} {s : ByteArray} {i : Nat} (h : i ≤ s.size) : i ≤ runE p s i ∧ runE p s i ≤ s.size := ⟨(runE_is p s h).le, (runE_is p s h).sz⟩
/-- The length of a run, and where it ends. -/
theorem run_wrap {i e : Nat} (h : i ≤ e) (he : e ≤ 65537) : IntKind.i64.wrap ((e : Int) - (i : Int)) = (e : Int) - (i : Int) ∧ IntKind.i64.wrap ((i : Int) + IntKind.i64.wrap ((e : Int) - (i : Int))) = (e : Int) := by
  have a : IntKind.i64.wrap ((e : Int) - (i : Int)) = (e : Int) - (i : Int) := wrap_in (by omega)
  refine ⟨a, ?_⟩
  rw [a, wrap_in (by omega)]
  omega
theorem slice_ok {i e n : Nat} (h : i ≤ e) (k : e ≤ n) : (decide (0 ≤ (i : Int)) && (decide ((i : Int) ≤ (e : Int)) && decide ((e : Int) ≤ (n : Int)))) = true := by simp; omega
variable {Φ : World → Prop} (hst : ∀ w w', Φ w → Below w.heap.size w w' → Φ w') (hix : ∀ c : Int, Ans Tryd.prog Φ 32 [.string symS, .int .u8 c] (num (symIx c)))
include hst hix
theorem s_Tk : Sound Tryd.prog Φ ΓTk :=
  Sound.cons (by kernel_rfl) (fun args p v h _ => by unfold sByte at h; split at h <;> cases h; exact c_dcletter hst _)
  (Sound.cons (by kernel_rfl) (fun args p v h _ => by unfold sByte at h; split at h <;> cases h; exact c_dcdigit hst _)
  (Sound.cons (by kernel_rfl) (fun args p v h _ => by unfold sByte at h; split at h <;> cases h; exact c_dcword hst _)
  (Sound.cons (by kernel_rfl) (fun args p v h _ => by unfold sByte at h; split at h <;> cases h; exact c_dctok1 hst _)
  (Sound.cons (by kernel_rfl) (fun args p v h hp => by unfold sSym at h; split at h <;> cases h; unfold IsSym at hp; subst hp; exact hix _) Sound.nil))))
set_option maxRecDepth 100000 in
theorem c_dctokens (s : ByteArray) : RAns Tryd.prog Φ 5 [oneV (.string s)] [.one (tR (tokL s)), .agg [.v (num (tokLine s)), .v (num (tokCol s))], oneV (num (tokErr s))] := by
  refine rfn_by hst (s_Tk hst hix) (vc_dctokens s) ?_
  refine bcase_iff.mpr ⟨fun q => ?_, fun q => ?_⟩
  · have q : 65536 < s.size := by have := of_decide_eq_true q; omega
    obtain ⟨a, b, c, d⟩ := tok_big q
    rw [a, b, c, d]
    exact ⟨rfl, rfl, rfl, rfl, trivial⟩
  have hs : s.size ≤ 65536 := by have := of_decide_eq_false q; omega
  clear q
  refine ⟨(0, 1, 1, []), ⟨rfl, rfl, rfl, rfl, rfl, rfl, rfl, rfl, rfl, trivial⟩, ti_zero s, ?_⟩
  rintro ⟨i, line, col, out⟩ t
  dsimp only at t ⊢
  have o1 := t.o1
  have i1 := t.i1
  have c0 := t.c0
  have c1 := t.c1
  have l0 := t.l0
  have l1 := t.l1
  refine bcase_iff.mpr ⟨fun q => ?_, fun q => ?_⟩
  · have h : i < s.size := by have := of_decide_eq_true q; omega
    clear q
    rw [inB_nat h, bcase_true, Int.toNat_natCast i, show ((s.get! i).toNat : Int) = bt s i from rfl]
    have hwi : IntKind.i64.wrap ((i : Int) + 1) = ((i + 1 : Nat) : Int) := by rw [wrap_in (by omega)]; omega
    have hwc : IntKind.i64.wrap (col + 1) = col + ((i + 1 - i : Nat) : Int) := by rw [wrap_in (by omega)]; omega
    have hwl : IntKind.i64.wrap (line + 1) = line + 1 := wrap_in (by omega)
    have cp := cap40 (show out.length + 1 ≤ 65537 by omega)
    refine bcase_iff.mpr ⟨fun b1 => ?_, fun b1 => bcase_iff.mpr ⟨fun b2 => ?_, fun b2 => bcase_iff.mpr ⟨fun b3 => ?_, fun b3 => bcase_iff.mpr ⟨fun b4 => ?_, fun b4 => ⟨trivial, bcase_iff.mpr ⟨fun b5 => ?_, fun b5 => ⟨trivial, bcase_iff.mpr ⟨fun b6 => ?_, fun b6 => ⟨rfl, ?_⟩⟩⟩⟩⟩⟩⟩⟩⟩
    · have e : tokE s i = (0, i + 1) := by unfold tokE; rw [if_pos (.inl (by simpa using b1))]
      exact leaf0 t h e hwi hwc
    · have e : tokE s i = (0, i + 1) := by unfold tokE; rw [if_pos (.inr (by simpa using b2))]
      exact leaf0 t h e hwi hwc
    · have b1 : bt s i ≠ 32 := by simpa using b1
      have b2 : bt s i ≠ 9 := by simpa using b2
      have e : tokE s i = (4, i + 1) := by unfold tokE; rw [if_neg (by omega), if_pos (by simpa using b3)]
      rw [cp, bcase_true]
      exact ⟨rfl, leaf4 t h e hwi hwl⟩
    · have b1 : bt s i ≠ 32 := by simpa using b1
      have b2 : bt s i ≠ 9 := by simpa using b2
      have b3 : bt s i ≠ 10 := by simpa using b3
      have e : tokE s i = (0, runE nlI s i) := by unfold tokE; rw [if_neg (by omega), if_neg b3, if_pos (by simpa using b4)]
      obtain ⟨r1, r2⟩ := run_le (p := nlI) (Nat.le_of_lt h)
      obtain ⟨w1, w2⟩ := run_wrap r1 (by omega)
      exact ⟨fun _ _ => leaf0 t h e w2 (by rw [w1, wrap_in (by omega)]; omega), run_loop _ _ _ _ _ hs rfl (by omega)⟩
    · have b1 : bt s i ≠ 32 := by simpa using b1
      have b2 : bt s i ≠ 9 := by simpa using b2
      have b3 : bt s i ≠ 10 := by simpa using b3
      have b4 : bt s i ≠ 35 := by simpa using b4
      obtain ⟨r1, r2⟩ := run_le (p := wordI) (Nat.le_of_lt h)
      obtain ⟨w1, w2⟩ := run_wrap r1 (by omega)
      have e : tokE s i = (if 20 < runE wordI s i - i then -1 else 1, runE wordI s i) := by unfold tokE; rw [if_neg (by omega), if_neg b3, if_neg b4, if_pos b5]
      refine ⟨fun _ _ => ?_, run_loop _ _ _ _ _ hs rfl (by omega)⟩
      rw [w2, w1, slice_ok r1 r2, bcase_true, cp, bcase_true]
      refine bcase_iff.mpr ⟨fun z => ?_, fun z => ?_⟩
      · have z := of_decide_eq_true z
        exact tok_bad hs t h (by rw [e, if_pos (by omega)]; exact (by decide : (-1 : Int) < 0))
      · have z := of_decide_eq_false z
        rw [if_neg (by omega)] at e
        exact ⟨rfl, leafK t h e (.inl rfl) rfl (by rw [wrap_in (by omega)]; omega) (by rw [Int.toNat_natCast])⟩
    · have b1 : bt s i ≠ 32 := by simpa using b1
      have b2 : bt s i ≠ 9 := by simpa using b2
      have b3 : bt s i ≠ 10 := by simpa using b3
      have b4 : bt s i ≠ 35 := by simpa using b4
      obtain ⟨r1, r2⟩ := run_le (p := digI) (Nat.le_of_lt h)
      obtain ⟨w1, w2⟩ := run_wrap r1 (by omega)
      have e : tokE s i = (2, numE s i) := by unfold tokE; rw [if_neg (by omega), if_neg b3, if_neg b4, if_neg (by rw [b5]; decide), if_pos b6]
      have hne : numE s i = if runE digI s i < s.size ∧ bt s (runE digI s i) = 46 then (if runE digI s i + 1 < runE digI s (runE digI s i + 1) then runE digI s (runE digI s i + 1) else runE digI s i) else runE digI s i := rfl
      refine ⟨fun _ _ => ?_, run_loop _ _ _ _ _ hs rfl (by omega)⟩
      rw [w2, w1, slice_ok r1 r2, bcase_true, cp, bcase_true]
      generalize hE : runE digI s i = E at *
      have leaf : numE s i = E → ∃ y : Nat × Int × Int × List Tok, (s = s ∧ out.length + 1 = y.2.2.2.length ∧ out.length + 1 ≠ 0 ∧ Int.ofNat 0 = 0 ∧ Int.ofNat 0 = 0 ∧ s = s ∧ (E : Int) = (y.1 : Int) ∧ line = y.2.1 ∧ IntKind.i64.wrap (col + ((E : Int) - (i : Int))) = y.2.2.1 ∧ out ++ [(2, s.extract i (E : Int).toNat, line, col)] = y.2.2.2 ∧ True) ∧ TI s y.1 y.2.1 y.2.2.1 y.2.2.2 ∧ s.size - y.1 < s.size - i := fun hn => by
        rw [hn] at e
        exact leafK t h e (.inr (.inl rfl)) rfl (by rw [wrap_in (by omega)]; omega) (by rw [Int.toNat_natCast])
      refine bcase_iff.mpr ⟨fun z => ?_, fun z => ⟨rfl, leaf (by rw [hne, if_neg (fun k => by have := of_decide_eq_false z; omega)])⟩⟩
      have z : E < s.size := by have := of_decide_eq_true z; omega
      have we : IntKind.i64.wrap ((E : Int) + 1) = ((E + 1 : Nat) : Int) := by rw [wrap_in (by omega)]; omega
      rw [inB_nat z, bcase_true, Int.toNat_natCast E, show ((s.get! E).toNat : Int) = bt s E from rfl]
      refine bcase_iff.mpr ⟨fun y => ?_, fun y => ⟨rfl, leaf (by rw [hne, if_neg (fun k => by have := k.2; simp at y; omega)])⟩⟩
      have y : bt s E = 46 := by simpa using y
      rw [if_pos ⟨z, y⟩] at hne
      rw [we, Int.toNat_natCast (E + 1)]
      obtain ⟨v1, v2⟩ := run_le (p := digI) (show E + 1 ≤ s.size by omega)
      obtain ⟨u1, u2⟩ := run_wrap v1 (by omega)
      refine ⟨fun _ _ => ?_, run_loop _ _ _ _ _ hs rfl (by omega)⟩
      rw [u1]
      generalize hG : runE digI s (E + 1) = G at *
      refine bcase_iff.mpr ⟨fun x => ?_, fun x => ?_⟩
      · have x : E + 1 < G := by have := of_decide_eq_true x; omega
        rw [if_pos x] at hne
        have k1 : IntKind.i64.wrap (1 + ((G : Int) - ((E + 1 : Nat) : Int))) = (G : Int) - (E : Int) := by rw [wrap_in (by omega)]; omega
        have k2 : IntKind.i64.wrap ((E : Int) - (i : Int) + ((G : Int) - (E : Int))) = (G : Int) - (i : Int) := by rw [wrap_in (by omega)]; omega
        have k3 : IntKind.i64.wrap ((i : Int) + ((G : Int) - (i : Int))) = (G : Int) := by rw [wrap_in (by omega)]; omega
        rw [k1, k2, k3, slice_ok (by omega) v2, bcase_true]
        rw [hne] at e
        exact ⟨rfl, leafK t h e (.inr (.inl rfl)) rfl (by rw [wrap_in (by omega)]; omega) (by rw [Int.toNat_natCast])⟩
      · have x : ¬ E + 1 < G := by have := of_decide_eq_false x; omega
        rw [if_neg x] at hne
        exact ⟨rfl, leaf hne⟩
    · have b1 : bt s i ≠ 32 := by simpa using b1
      have b2 : bt s i ≠ 9 := by simpa using b2
      have b3 : bt s i ≠ 10 := by simpa using b3
      have b4 : bt s i ≠ 35 := by simpa using b4
      have e : tokE s i = if symI (bt s i) = true then (3, i + 1) else (-1, i + 1) := by unfold tokE; rw [if_neg (by omega), if_neg b3, if_neg b4, if_neg (by rw [b5]; decide), if_neg (by rw [b6]; decide)]
      rw [sym_is (bt_u8 s i), hwi, slice_ok (by omega) (by omega), bcase_true, cp, bcase_true]
      refine bcase_iff.mpr ⟨fun z => ?_, fun z => ?_⟩
      · rw [if_pos z] at e
        exact ⟨rfl, leafK t h e (.inr (.inr rfl)) rfl hwc (by rw [Int.toNat_natCast])⟩
      · rw [if_neg (by rw [z]; decide)] at e
        exact tok_bad hs t h (by rw [e]; exact (by decide : (-1 : Int) < 0))
  · have h : s.size ≤ i := by have := of_decide_eq_false q; omega
    rw [cap40 (show out.length + 1 ≤ 65537 by omega), bcase_true]
    exact ⟨rfl, by simp, tok_end hs t h⟩
end Go.Proofs.YtobmbbmompoliaaDoor
