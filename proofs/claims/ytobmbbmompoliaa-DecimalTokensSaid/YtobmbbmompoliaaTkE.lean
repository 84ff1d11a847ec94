/- Tokens: the reference's contract; names; equal rows; the law. -/
import Derived.Test.YtobmbbmompoliaaTkD
import Derived.Laws.Strings
namespace Go.Proofs.Ytobmbbmompoliaa
open Go Go.Abs Go.RowKit
set_option linter.unusedVariables false
set_option linter.unusedSimpArgs false
theorem mleaf0 {s : ByteArray} {i : Nat} {line col : Int} {out : List Tok} {e : Nat} {x b : Int} (t : TI s i line col out) (h : i < s.size) (ht : tokE s i = (0, e)) (hx : x = (e : Int)) (hb' : b = (i : Int) + 1 - col) :
    ∃ y : Nat × Int × Int × List Tok, (s = s ∧ out.length = y.2.2.2.length ∧ line = y.2.1 ∧ b = (y.1 : Int) + 1 - y.2.2.1 ∧ x = (y.1 : Int) ∧ Int.ofNat 0 = 0 ∧ Int.ofNat 0 = 0 ∧ out = y.2.2.2 ∧ True) ∧ TI s y.1 y.2.1 y.2.2.1 y.2.2.2 ∧ s.size - y.1 < s.size - i := by
  have hb := tokE_is h
  rw [ht] at hb
  dsimp only at hb
  have q := ti_step t h ht (by decide)
  rw [if_neg (by decide), if_neg (by decide)] at q
  exact ⟨(e, line, col + ((e - i : Nat) : Int), out), ⟨rfl, rfl, rfl, by dsimp only; omega, hx, rfl, rfl, rfl, trivial⟩, q, by dsimp only; omega⟩
theorem mleafK {s : ByteArray} {i : Nat} {line col : Int} {out : List Tok} {e : Nat} {k x b c : Int} {tx : ByteArray} (t : TI s i line col out) (h : i < s.size) (ht : tokE s i = (k, e)) (hk : k = 1 ∨ k = 2 ∨ k = 3) (hx : x = (e : Int)) (hb' : b = (i : Int) + 1 - col) (hc : c = col) (he : tx = s.extract i e) :
    ∃ y : Nat × Int × Int × List Tok, (s = s ∧ out.length + 1 = y.2.2.2.length ∧ out.length + 1 ≠ 0 ∧ line = y.2.1 ∧ b = (y.1 : Int) + 1 - y.2.2.1 ∧ x = (y.1 : Int) ∧ Int.ofNat 0 = 0 ∧ Int.ofNat 0 = 0 ∧ out ++ [(k, tx, line, c)] = y.2.2.2 ∧ True) ∧ TI s y.1 y.2.1 y.2.2.1 y.2.2.2 ∧ s.size - y.1 < s.size - i := by
  subst hc
  have hb := tokE_is h
  rw [ht] at hb
  dsimp only at hb
  have q := ti_step t h ht (by omega)
  have ha : addT s i k e line c out = out ++ [(k, tx, line, c)] := by
    unfold addT
    rw [if_neg (by omega), if_neg (by omega), he]
    rfl
  rw [if_neg (by omega), if_neg (by omega), ha] at q
  exact ⟨(e, line, c + ((e - i : Nat) : Int), out ++ [(k, tx, line, c)]), ⟨rfl, by simp, by omega, rfl, by dsimp only; omega, hx, rfl, rfl, rfl, trivial⟩, q, by dsimp only; omega⟩
theorem mleaf4 {s : ByteArray} {i : Nat} {line col : Int} {out : List Tok} {e : Nat} {x l c k : Int} (t : TI s i line col out) (h : i < s.size) (ht : tokE s i = (k, e)) (hk : k = 4) (hx : x = (e : Int)) (hl : l = line + 1) (hc : c = col) :
    ∃ y : Nat × Int × Int × List Tok, (s = s ∧ out.length + 1 = y.2.2.2.length ∧ out.length + 1 ≠ 0 ∧ l = y.2.1 ∧ x = (y.1 : Int) + 1 - y.2.2.1 ∧ x = (y.1 : Int) ∧ Int.ofNat 0 = 0 ∧ Int.ofNat 0 = 0 ∧ out ++ [(k, ByteArray.mk #[], line, c)] = y.2.2.2 ∧ True) ∧ TI s y.1 y.2.1 y.2.2.1 y.2.2.2 ∧ s.size - y.1 < s.size - i := by
  subst hc
  subst hk
  have hb := tokE_is h
  rw [ht] at hb
  dsimp only at hb
  have q := ti_step t h ht (by decide)
  rw [if_pos rfl, if_pos rfl] at q
  exact ⟨(e, line + 1, 1, out ++ [(4, ByteArray.mk #[], line, c)]), ⟨rfl, by simp, by omega, hl, by dsimp only; omega, hx, rfl, rfl, rfl, trivial⟩, q, by dsimp only; omega⟩
theorem tok_kinds (s : ByteArray) (i : Nat) : (tokE s i).1 = 0 ∨ (tokE s i).1 = 1 ∨ (tokE s i).1 = 2 ∨ (tokE s i).1 = 3 ∨ (tokE s i).1 = 4 ∨ (tokE s i).1 = -1 := by
  unfold tokE
  repeat' split
  all_goals simp
theorem tok_blank {s : ByteArray} {i : Nat} (h1 : bt s i ≠ 32) (h2 : bt s i ≠ 9) (h3 : bt s i ≠ 35) : (tokE s i).1 ≠ 0 := by
  unfold tokE
  rw [if_neg (by omega)]
  split
  · simp
  repeat' split
  all_goals simp
theorem name_no {s : ByteArray} (h : ¬ (s.size ≤ 20 ∧ 0 < s.size ∧ runE wordI s 0 = s.size ∧ ltrI (bt s 0) = true)) : nameB s = false := by
  unfold nameB
  rw [Bool.eq_false_iff]
  intro q
  simp only [Bool.and_eq_true, decide_eq_true_eq] at q
  exact h ⟨q.1.1, q.1.2.1, q.1.2.2, q.2⟩
theorem eqb {a b : Bool} (h : b = a) : Value.bool a = .bool b := by rw [h]
section
variable {Φ : World → Prop} (hst : ∀ w w', Φ w → Below w.heap.size w w' → Φ w')
include hst
set_option maxRecDepth 100000 in
theorem c_r1tokens (s : ByteArray) : RAns Try.prog Φ 17 [oneV (.string s)] [.one (tR (tokL s)), .agg [.v (num (tokLine s)), .v (num (tokCol s))], oneV (num (tokErr s))] := by
  refine rfn_by hst (Sound.cons (by kernel_rfl) (fun args p v h hp => by unfold sEnd at h; split at h <;> cases h; exact c_r1end hst _ _ hp) Sound.nil) (vc_r1tokens s) ?_
  refine bcase_iff.mpr ⟨fun q => ?_, fun q => ?_⟩
  · have q : 65536 < s.size := by have := of_decide_eq_true q; omega
    obtain ⟨a, b, c, d⟩ := tok_big q
    rw [a, b, c, d]
    exact ⟨rfl, rfl, rfl, rfl, trivial⟩
  have hs : s.size ≤ 65536 := by have := of_decide_eq_false q; omega
  clear q
  refine ⟨(0, 1, 1, []), ⟨rfl, rfl, rfl, rfl, rfl, rfl, rfl, rfl, trivial⟩, ti_zero s, ?_⟩
  rintro ⟨i, line, col, out⟩ t
  dsimp only at t ⊢
  have o1 := t.o1
  have i1 := t.i1
  have c0 := t.c0
  have c1 := t.c1
  have l0 := t.l0
  have l1 := t.l1
  have hcol : ∀ x : Int, 0 ≤ x ∧ x ≤ 65536 → IntKind.i64.wrap (IntKind.i64.wrap (x - ((i : Int) + 1 - col)) + 1) = x - (i : Int) + col := fun x hx => by
    rw [wrap_in (n := x - ((i : Int) + 1 - col)) (by omega), wrap_in (by omega)]
    omega
  refine bcase_iff.mpr ⟨fun q => ?_, fun q => ?_⟩
  · have h : i < s.size := by have := of_decide_eq_true q; omega
    clear q
    rw [hcol i (by omega), show (i : Int) - i + col = col by omega, inB_nat h, bcase_true, bcase_true, bcase_true, Int.toNat_natCast i, show ((s.get! i).toNat : Int) = bt s i from rfl]
    have hwi : IntKind.i64.wrap ((i : Int) + 1) = ((i + 1 : Nat) : Int) := by rw [wrap_in (by omega)]; omega
    have hwl : IntKind.i64.wrap (line + 1) = line + 1 := wrap_in (by omega)
    have cp := cap40 (show out.length + 1 ≤ 65537 by omega)
    refine bcase_iff.mpr ⟨fun b1 => ?_, fun b1 => bcase_iff.mpr ⟨fun b2 => ?_, fun b2 => bcase_iff.mpr ⟨fun b4 => ?_, fun b4 => ?_⟩⟩⟩
    · have e : tokE s i = (0, i + 1) := by unfold tokE; rw [if_pos (.inl (by simpa using b1))]
      exact mleaf0 t h e hwi rfl
    · have e : tokE s i = (0, i + 1) := by unfold tokE; rw [if_pos (.inr (by simpa using b2))]
      exact mleaf0 t h e hwi rfl
    · have b1 : bt s i ≠ 32 := by simpa using b1
      have b2 : bt s i ≠ 9 := by simpa using b2
      have b4 : bt s i = 35 := by simpa using b4
      have e : tokE s i = (0, runE nlI s i) := by unfold tokE; rw [if_neg (by omega), if_neg (by omega), if_pos b4]
      refine ⟨fun _ _ => mleaf0 t h e rfl rfl, i, ⟨rfl, rfl, rfl, rfl, rfl, rfl, rfl, rfl, rfl, rfl, trivial⟩, run_zero nlI (by omega), fun m hm => bcase_iff.mpr ⟨fun q => ?_, fun q => ?_⟩⟩
      · have q : m < s.size := by have := of_decide_eq_true q; omega
        rw [inB_nat q, bcase_true, Int.toNat_natCast m, show ((s.get! m).toNat : Int) = bt s m from rfl]
        refine bcase_iff.mpr ⟨fun c => ?_, fun c => ?_⟩
        · obtain ⟨y, ⟨_, _, y1, _⟩, y2, y3⟩ := re_step 0 hs hm q (show nlI (bt s m) = true by unfold nlI; simpa using c)
          exact ⟨y, ⟨rfl, rfl, rfl, rfl, y1, rfl, rfl, rfl, rfl, rfl, trivial⟩, y2, y3⟩
        · obtain ⟨y, ⟨_, _, y1, _⟩, _⟩ := re_stop 0 (re_no hm (show nlI (bt s m) = false by unfold nlI; simpa using c))
          exact ⟨y, ⟨rfl, rfl, rfl, rfl, y1, rfl, rfl, rfl, rfl, rfl, trivial⟩, trivial⟩
      · obtain ⟨y, ⟨_, _, y1, _⟩, _⟩ := re_stop 0 (re_end hm (by have := of_decide_eq_false q; omega))
        exact ⟨y, ⟨rfl, rfl, rfl, rfl, y1, rfl, rfl, rfl, rfl, rfl, trivial⟩, trivial⟩
    · have b1 : bt s i ≠ 32 := by simpa using b1
      have b2 : bt s i ≠ 9 := by simpa using b2
      have b4 : bt s i ≠ 35 := by simpa using b4
      have kk := tok_kinds s i
      have k0 := tok_blank b1 b2 b4
      have hb := tokE_is h
      refine ⟨⟨by omega, by omega, hs, by rw [Int.toNat_natCast]; exact b1, by rw [Int.toNat_natCast]; exact b2, by rw [Int.toNat_natCast]; exact b4⟩, ?_⟩
      generalize hT : tokE s i = T at *
      obtain ⟨k, e⟩ := T
      dsimp only at kk k0 hb
      by_cases neg : k < 0
      · obtain ⟨e1, e2⟩ := (end_is hT).1 neg
        rw [e2, show ((0 : Int) == 0) = true from rfl, bcase_true]
        exact tok_bad hs t h (by rw [hT]; exact neg)
      · obtain ⟨e1, e2⟩ := (end_is hT).2 neg
        rw [e1, e2, show (k == 0) = false from beq_eq_false_iff_ne.mpr k0, bcase_false, cp, bcase_true, bcase_true, slice_ok (by omega) (by omega), bcase_true]
        refine bcase_iff.mpr ⟨fun z => ⟨rfl, ?_⟩, fun z => ⟨rfl, ?_⟩⟩
        · have z : k = 4 := by simpa using z
          exact mleaf4 t h hT z rfl hwl rfl
        · have z : k ≠ 4 := by simpa using z
          exact mleafK t h hT (by omega) rfl rfl rfl (by rw [Int.toNat_natCast])
  · have h : s.size ≤ i := by have := of_decide_eq_false q; omega
    rw [hcol (s.size : Int) (by omega), show (s.size : Int) - i + col = col by omega, cap40 (show out.length + 1 ≤ 65537 by omega), bcase_true]
    exact ⟨rfl, by simp, tok_end hs t h⟩
theorem c_dcname (s : ByteArray) : Ans Try.prog Φ 19 [.string s] (.bool (nameB s)) := by
  refine fn_by hst (Sound.cons (by kernel_rfl) (fun args p v h _ => by unfold sByte at h; split at h <;> cases h; exact c_dcletter hst _) (Sound.cons (by kernel_rfl) (fun args p v h _ => by unfold sByte at h; split at h <;> cases h; exact c_dcword hst _) Sound.nil)) (vc_dcname s _) ?_
  refine bcase_iff.mpr ⟨fun q => ?_, fun q => eqb (name_no fun k => by have := of_decide_eq_false q; omega)⟩
  have q : s.size ≤ 20 := by have := of_decide_eq_true q; omega
  refine ⟨0, ⟨rfl, rfl, rfl, rfl, trivial⟩, run_zero wordI (Nat.zero_le _), fun m hm => bcase_iff.mpr ⟨fun z => ?_, fun z => ?_⟩⟩
  · have z : m < s.size := by have := of_decide_eq_true z; omega
    rw [inB_nat z, bcase_true, Int.toNat_natCast m, show ((s.get! m).toNat : Int) = bt s m from rfl]
    refine ⟨trivial, bcase_iff.mpr ⟨fun c => eqb (name_no fun k => ?_), fun c => ?_⟩⟩
    · have := run_eq (re_no hm (show wordI (bt s m) = false by simpa using c))
      omega
    · obtain ⟨y, ⟨_, _, y1, _⟩, y2, y3⟩ := re_step 0 (by omega) hm z (show wordI (bt s m) = true by simpa using c)
      exact ⟨y, ⟨rfl, rfl, rfl, y1, trivial⟩, y2, y3⟩
  · have z : s.size ≤ m := by have := of_decide_eq_false z; omega
    have r := run_eq (re_end hm z)
    have sz := hm.sz
    rw [ByteArray.toList_eq]
    refine bcase_iff.mpr ⟨fun c => ?_, fun c => eqb (name_no fun k => ?_)⟩
    · have c : 0 < s.size := by
        have : s.data.toList ≠ [] := by simpa using c
        have := List.length_pos_iff.2 this
        rw [Array.length_toList] at this
        exact this
      rw [show inB 0 s.size = true from inB_nat (i := 0) c, bcase_true]
      refine ⟨trivial, eqb ?_⟩
      unfold nameB
      rw [decide_eq_true q, decide_eq_true (show 0 < s.size ∧ runE wordI s 0 = s.size from ⟨c, by omega⟩)]
      rfl
    · have c : s.data.toList = [] := by simpa using c
      have := congrArg List.length c
      rw [Array.length_toList] at this
      have : s.size = 0 := this
      omega
theorem c_r1name (s : ByteArray) : Ans Try.prog Φ 20 [.string s] (.bool (nameB s)) := by
  refine fn_by hst (Sound.cons (by kernel_rfl) (fun args p v h _ => by unfold sByte at h; split at h <;> cases h; exact c_r1letter hst _) (Sound.cons (by kernel_rfl) (fun args p v h _ => by unfold sByte at h; split at h <;> cases h; exact c_r1digit hst _) Sound.nil)) (vc_r1name s _) ?_
  refine bcase_iff.mpr ⟨fun q => eqb (name_no fun k => ?_), fun q => bcase_iff.mpr ⟨fun q2 => eqb (name_no fun k => by have := of_decide_eq_true q2; omega), fun q2 => ?_⟩⟩
  · have : (s.size : Int) = 0 := by simpa using q
    omega
  have q : (s.size : Int) ≠ 0 := by simpa using q
  have q2 : s.size ≤ 20 := by have := of_decide_eq_false q2; omega
  rw [show inB 0 s.size = true from inB_nat (i := 0) (by omega), bcase_true]
  refine ⟨trivial, bcase_iff.mpr ⟨fun c => eqb (name_no fun k => ?_), fun c => ?_⟩⟩
  · have c : (!ltrI (bt s 0)) = true := c
    have : ltrI (bt s 0) = false := by simpa using c
    rw [this] at k
    cases k.2.2.2
  have c : (!ltrI (bt s 0)) = false := c
  have c : ltrI (bt s 0) = true := by simpa using c
  refine ⟨0, ⟨rfl, rfl, trivial⟩, run_zero wordI (Nat.zero_le _), fun m hm => bcase_iff.mpr ⟨fun z => ?_, fun z => ?_⟩⟩
  · have z : m < s.size := by have := of_decide_eq_true z; omega
    have step : wordI (bt s m) = true → ∃ y : Nat, (s = s ∧ IntKind.i64.wrap ((m : Int) + 1) = (y : Int) ∧ True) ∧ RunI wordI s 0 y ∧ s.size - y < s.size - m := fun w => by
      obtain ⟨y, ⟨_, _, y1, _⟩, y2, y3⟩ := re_step 0 (by omega) hm z w
      exact ⟨y, ⟨rfl, y1, trivial⟩, y2, y3⟩
    rw [inB_nat z, bcase_true, bcase_true, bcase_true, Int.toNat_natCast m, show ((s.get! m).toNat : Int) = bt s m from rfl]
    refine ⟨trivial, bcase_iff.mpr ⟨fun c1 => ⟨trivial, bcase_iff.mpr ⟨fun c2 => bcase_iff.mpr ⟨fun c3 => eqb (name_no fun k => ?_), fun c3 => step ?_⟩, fun c2 => step ?_⟩⟩, fun c1 => step ?_⟩⟩
    · have c1 : ltrI (bt s m) = false := by simpa using c1
      have c2 : digI (bt s m) = false := by simpa using c2
      have c3 : bt s m ≠ 95 := by simpa using c3
      have := run_eq (re_no hm (show wordI (bt s m) = false by unfold wordI; rw [c1, c2]; simp [c3]))
      omega
    · have c3 : bt s m = 95 := by simpa using c3
      unfold wordI; rw [c3]; decide
    · have c2 : digI (bt s m) = true := by simpa using c2
      unfold wordI; rw [c2]; simp
    · have c1 : ltrI (bt s m) = true := by simpa using c1
      unfold wordI; rw [c1]; rfl
  · have z : s.size ≤ m := by have := of_decide_eq_false z; omega
    have r := run_eq (re_end hm z)
    have sz := hm.sz
    refine eqb ?_
    unfold nameB
    rw [decide_eq_true q2, decide_eq_true (show 0 < s.size ∧ runE wordI s 0 = s.size from ⟨by omega, by omega⟩), c]
    rfl
theorem c_eqT (xs ys : List Tok) (h : EqT xs ys) : RAns Try.prog Φ 18 [.one (tR xs), .one (tR ys)] [.one (.v (.bool true))] := by
  obtain ⟨rfl, hl⟩ := h
  refine rfn_by hst Sound.nil (vc_eqT xs xs) ?_
  rw [show ((xs.length : Int) != (xs.length : Int)) = false by simp, bcase_false]
  refine ⟨0, ⟨rfl, rfl, rfl, rfl, rfl, rfl, trivial⟩, Nat.zero_le _, fun i hi => bcase_iff.mpr ⟨fun q => ?_, fun _ => ⟨rfl, trivial⟩⟩⟩
  have q : i < xs.length := by have := of_decide_eq_true q; omega
  rw [inB_nat q, bcase_true, bcase_true, Int.toNat_natCast i, show i.blt xs.length = true from Nat.ble_eq_true_of_le q, bcase_true, bcase_true]
  refine bcase_iff.mpr ⟨fun c => by simp at c, fun _ => ⟨i + 1, ⟨rfl, rfl, rfl, by rw [wrap_in (by omega)]; omega, rfl, rfl, trivial⟩, q, by omega⟩⟩
end
end Go.Proofs.Ytobmbbmompoliaa
