/- The program's reading of texts of angles: a contract. -/
import Derived.Test.YtkcelhhhbbpbpaaDoorParC
namespace Go.Proofs.YtkcelhhhbbpbpaaDoor
open Go Go.Abs Go.RowKit
set_option linter.unusedVariables false
set_option linter.unusedSimpArgs false
def tpB (s q : ByteArray) : ByteArray := ⟨(Lib.trimPrefix s.data.toList q.data.toList).toArray⟩
def miB (s q : ByteArray) : Bool := Lib.hasPrefix s.data.toList q.data.toList
def cwB (s q : ByteArray) : ByteArray := ⟨(Lib.cut s.data.toList q.data.toList).1.toArray⟩
def cpB (s q : ByteArray) : ByteArray := ⟨(Lib.cut s.data.toList q.data.toList).2.1.toArray⟩
def coB (s q : ByteArray) : Bool := (Lib.cut s.data.toList q.data.toList).2.2
/-- The library's package variable holds some int. -/
def Vs (w : World) : Prop := ∃ m, w.cell? ⟨0, 0, none⟩ = some (.int .i64 m)
theorem st_vs : ∀ w w', Vs w → Below w.heap.size w w' → Vs w' := fun w w' ⟨m, h⟩ hb => ⟨m, by rw [hb.cell (p := ⟨0, 0, none⟩) (World.block_lt_of_cell? _ _ h)]; exact h⟩
theorem sl_size {s : ByteArray} (h : SL s) : s.size < 4294967281 := by
  have := Lib.size_eq s
  unfold SL at h
  omega
theorem mk_size (l : List UInt8) : (ByteArray.mk l.toArray).size = l.length := by simp [ByteArray.size]
/-- What a text stands for, and the error's number. -/
def parV (s : ByteArray) : Int := (parL s.data.toList).1
def parE (s : ByteArray) : Int := (parL s.data.toList).2
/-- What is asked behind the fraction, where it is t. -/
theorem par_fin (deg mins part : List UInt8) (ok po mi : Bool) (t : Int) (K : Value → Prop) (hpo : ¬ (po = true ∧ (okD part = false ∨ 3 < part.length)))
    (ht : t = ((if po = true then dv part * 10 ^ (3 - part.length) else 0 : Nat) : Int)) (t0 : 0 ≤ t ∧ t ≤ 1125899906842624000)
    (hK : K (.tuple #[.int .i64 (pT deg mins part ok po mi).1, .int .i64 (pT deg mins part ok po mi).2])) :
    bcase (!ok) (K (Value.tuple #[Value.int IntKind.i64 0, Value.int IntKind.i64 7]))
    (bcase (!okD deg) (K (Value.tuple #[Value.int IntKind.i64 0, Value.int IntKind.i64 7]))
    (bcase (!okD mins) (K (Value.tuple #[Value.int IntKind.i64 0, Value.int IntKind.i64 7]))
    (bcase (decide (((ByteArray.mk deg.toArray).size : Int) > 1))
    (bcase (inB 0 (ByteArray.mk deg.toArray).size)
    (bcase ((((ByteArray.mk deg.toArray).get! 0).toNat : Int) == 48) (K (Value.tuple #[Value.int IntKind.i64 0, Value.int IntKind.i64 7]))
    (bcase (((ByteArray.mk mins.toArray).size : Int) != 2) (K (Value.tuple #[Value.int IntKind.i64 0, Value.int IntKind.i64 7]))
    (bcase (decide (((dv mins : Nat) : Int) ≥ 60)) (K (Value.tuple #[Value.int IntKind.i64 0, Value.int IntKind.i64 7]))
    (bcase (decide (((dv deg : Nat) : Int) > 1099511627776)) (K (Value.tuple #[Value.int IntKind.i64 0, Value.int IntKind.i64 5]))
    (bcase (decide (IntKind.i64.wrap (IntKind.i64.wrap (IntKind.i64.wrap (((dv deg : Nat) : Int) * 60000) + IntKind.i64.wrap (((dv mins : Nat) : Int) * 1000)) + t) ≥ -1099511627776))
    (bcase (!decide (IntKind.i64.wrap (IntKind.i64.wrap (IntKind.i64.wrap (((dv deg : Nat) : Int) * 60000) + IntKind.i64.wrap (((dv mins : Nat) : Int) * 1000)) + t) ≤ 1099511627776)) (K (Value.tuple #[Value.int IntKind.i64 0, Value.int IntKind.i64 5]))
    (bcase mi (K (Value.tuple #[Value.int IntKind.i64 (IntKind.i64.wrap (0 - IntKind.i64.wrap (IntKind.i64.wrap (IntKind.i64.wrap (((dv deg : Nat) : Int) * 60000) + IntKind.i64.wrap (((dv mins : Nat) : Int) * 1000)) + t))), Value.int IntKind.i64 0]))
    (K (Value.tuple #[Value.int IntKind.i64 (IntKind.i64.wrap (IntKind.i64.wrap (IntKind.i64.wrap (((dv deg : Nat) : Int) * 60000) + IntKind.i64.wrap (((dv mins : Nat) : Int) * 1000)) + t)), Value.int IntKind.i64 0]))))
    (K (Value.tuple #[Value.int IntKind.i64 0, Value.int IntKind.i64 5])))))))
    False)
    (bcase (((ByteArray.mk mins.toArray).size : Int) != 2) (K (Value.tuple #[Value.int IntKind.i64 0, Value.int IntKind.i64 7]))
    (bcase (decide (((dv mins : Nat) : Int) ≥ 60)) (K (Value.tuple #[Value.int IntKind.i64 0, Value.int IntKind.i64 7]))
    (bcase (decide (((dv deg : Nat) : Int) > 1099511627776)) (K (Value.tuple #[Value.int IntKind.i64 0, Value.int IntKind.i64 5]))
    (bcase (decide (IntKind.i64.wrap (IntKind.i64.wrap (IntKind.i64.wrap (((dv deg : Nat) : Int) * 60000) + IntKind.i64.wrap (((dv mins : Nat) : Int) * 1000)) + t) ≥ -1099511627776))
    (bcase (!decide (IntKind.i64.wrap (IntKind.i64.wrap (IntKind.i64.wrap (((dv deg : Nat) : Int) * 60000) + IntKind.i64.wrap (((dv mins : Nat) : Int) * 1000)) + t) ≤ 1099511627776)) (K (Value.tuple #[Value.int IntKind.i64 0, Value.int IntKind.i64 5]))
    (bcase mi (K (Value.tuple #[Value.int IntKind.i64 (IntKind.i64.wrap (0 - IntKind.i64.wrap (IntKind.i64.wrap (IntKind.i64.wrap (((dv deg : Nat) : Int) * 60000) + IntKind.i64.wrap (((dv mins : Nat) : Int) * 1000)) + t))), Value.int IntKind.i64 0]))
    (K (Value.tuple #[Value.int IntKind.i64 (IntKind.i64.wrap (IntKind.i64.wrap (IntKind.i64.wrap (((dv deg : Nat) : Int) * 60000) + IntKind.i64.wrap (((dv mins : Nat) : Int) * 1000)) + t)), Value.int IntKind.i64 0]))))
    (K (Value.tuple #[Value.int IntKind.i64 0, Value.int IntKind.i64 5]))))))))) := by
  have no : ∀ {P : Prop}, P → (ok = false ∨ okD deg = false ∨ okD mins = false ∨ (1 < deg.length ∧ deg.head? = some 48) ∨ mins.length ≠ 2 ∨ 60 ≤ dv mins) → K (.tuple #[.int .i64 0, .int .i64 7]) := fun _ h => by
    rw [pT_no (Or.inr h)] at hK; exact hK
  have no := @no True trivial
  rw [mk_size, mk_size]
  by_cases c1 : ok = false
  · rw [c1, Bool.not_false, bcase_true]; exact no (Or.inl c1)
  by_cases c2 : okD deg = false
  · rw [c2]; simp only [Bool.not_eq_false] at c1; rw [c1, Bool.not_true, bcase_false, Bool.not_false, bcase_true]; exact no (Or.inr (Or.inl c2))
  by_cases c3 : okD mins = false
  · simp only [Bool.not_eq_false] at c1 c2; rw [c1, c2, c3, Bool.not_true, bcase_false, bcase_false, Bool.not_false, bcase_true]; exact no (Or.inr (Or.inr (Or.inl c3)))
  have ok1 := c1; have ok2 := c2; have ok3 := c3
  simp only [Bool.not_eq_false] at ok1 ok2 ok3
  have tail : ¬ (1 < deg.length ∧ deg.head? = some 48) → bcase ((mins.length : Int) != 2) (K (Value.tuple #[Value.int IntKind.i64 0, Value.int IntKind.i64 7]))
    (bcase (decide (((dv mins : Nat) : Int) ≥ 60)) (K (Value.tuple #[Value.int IntKind.i64 0, Value.int IntKind.i64 7]))
    (bcase (decide (((dv deg : Nat) : Int) > 1099511627776)) (K (Value.tuple #[Value.int IntKind.i64 0, Value.int IntKind.i64 5]))
    (bcase (decide (IntKind.i64.wrap (IntKind.i64.wrap (IntKind.i64.wrap (((dv deg : Nat) : Int) * 60000) + IntKind.i64.wrap (((dv mins : Nat) : Int) * 1000)) + t) ≥ -1099511627776))
    (bcase (!decide (IntKind.i64.wrap (IntKind.i64.wrap (IntKind.i64.wrap (((dv deg : Nat) : Int) * 60000) + IntKind.i64.wrap (((dv mins : Nat) : Int) * 1000)) + t) ≤ 1099511627776)) (K (Value.tuple #[Value.int IntKind.i64 0, Value.int IntKind.i64 5]))
    (bcase mi (K (Value.tuple #[Value.int IntKind.i64 (IntKind.i64.wrap (0 - IntKind.i64.wrap (IntKind.i64.wrap (IntKind.i64.wrap (((dv deg : Nat) : Int) * 60000) + IntKind.i64.wrap (((dv mins : Nat) : Int) * 1000)) + t))), Value.int IntKind.i64 0]))
    (K (Value.tuple #[Value.int IntKind.i64 (IntKind.i64.wrap (IntKind.i64.wrap (IntKind.i64.wrap (((dv deg : Nat) : Int) * 60000) + IntKind.i64.wrap (((dv mins : Nat) : Int) * 1000)) + t)), Value.int IntKind.i64 0]))))
    (K (Value.tuple #[Value.int IntKind.i64 0, Value.int IntKind.i64 5]))))) := fun c4 => by
    refine bcase_iff.mpr ⟨fun q => no (Or.inr (Or.inr (Or.inr (Or.inr (Or.inl ?_))))), fun q => bcase_iff.mpr ⟨fun q2 => no (Or.inr (Or.inr (Or.inr (Or.inr (Or.inr ?_))))), fun q2 => ?_⟩⟩
    · rw [bne_iff_ne] at q; omega
    · have := of_decide_eq_true q2; omega
    · rw [bne_eq_false_iff_eq] at q
      have q2 := of_decide_eq_false q2
      have n2 : ¬ (ok = false ∨ okD deg = false ∨ okD mins = false ∨ (1 < deg.length ∧ deg.head? = some 48) ∨ mins.length ≠ 2 ∨ 60 ≤ dv mins) := by
        rintro (h | h | h | h | h | h)
        · exact c1 h
        · exact c2 h
        · exact c3 h
        · exact c4 h
        · omega
        · omega
      rw [pT_yes hpo n2] at hK
      generalize (if po = true then dv part * 10 ^ (3 - part.length) else 0 : Nat) = T at ht hK
      generalize hd : dv deg = d at *
      generalize hm : dv mins = m at *
      unfold tailB at hK
      refine bcase_iff.mpr ⟨fun q3 => ?_, fun q3 => ?_⟩
      · have q3 := of_decide_eq_true q3
        rw [if_pos (by omega)] at hK
        exact hK
      · have q3 := of_decide_eq_false q3
        rw [if_neg (by omega)] at hK
        have w : IntKind.i64.wrap (IntKind.i64.wrap (IntKind.i64.wrap ((d : Int) * 60000) + IntKind.i64.wrap ((m : Int) * 1000)) + t) = ((d * 60000 + m * 1000 + T : Nat) : Int) := by
          rw [wrap_in (n := (d : Int) * 60000) (by omega), wrap_in (n := (m : Int) * 1000) (by omega), wrap_in (n := (d : Int) * 60000 + (m : Int) * 1000) (by omega), wrap_in (by omega)]; omega
        rw [w]
        generalize d * 60000 + m * 1000 + T = N at *
        rw [decide_eq_true (by omega), bcase_true]
        refine bcase_iff.mpr ⟨fun q4 => ?_, fun q4 => ?_⟩
        · rw [Bool.not_eq_true'] at q4
          have q4 := of_decide_eq_false q4
          rw [if_pos (by omega)] at hK
          exact hK
        · rw [Bool.not_eq_false'] at q4
          have q4 := of_decide_eq_true q4
          rw [if_neg (by omega)] at hK
          refine bcase_iff.mpr ⟨fun q5 => ?_, fun q5 => ?_⟩
          · rw [if_pos q5] at hK
            rw [wrap_in (by omega), show (0 : Int) - (N : Int) = -(N : Int) by omega]
            exact hK
          · rw [if_neg (by rw [q5]; decide)] at hK
            exact hK
  rw [ok1, ok2, ok3, Bool.not_true, bcase_false, bcase_false, bcase_false]
  refine bcase_iff.mpr ⟨fun q => ?_, fun q => tail (fun h => by have := of_decide_eq_false q; omega)⟩
  have q := of_decide_eq_true q
  rw [inY (by omega) (by omega), bcase_true]
  match deg, q with
  | c :: r, q =>
    have g : (ByteArray.mk (c :: r).toArray).get! 0 = c := rfl
    rw [g]
    refine bcase_iff.mpr ⟨fun e => no (Or.inr (Or.inr (Or.inr (Or.inl ⟨by simp at q ⊢; omega, ?_⟩)))), fun e => tail ?_⟩
    · have e := eq_of_beq e
      have : c = 48 := UInt8.toNat_inj.mp (by show c.toNat = 48; omega)
      rw [this]; rfl
    · rintro ⟨-, h⟩
      have : c = 48 := by simpa using h
      rw [this] at e
      revert e; decide
theorem body_len (l : List UInt8) : (body l).length ≤ l.length := by unfold body Lib.trimPrefix; split <;> simp
theorem cut_len (l : List UInt8) (c : UInt8) : (Lib.cut l [c]).1.length ≤ l.length ∧ (Lib.cut l [c]).2.1.length ≤ l.length := by
  rw [cut_first]
  have h1 := (List.takeWhile_sublist (fun x => x != c) (l := l)).length_le
  have h2 := (List.dropWhile_sublist (fun x => x != c) (l := l)).length_le
  exact ⟨h1, by rw [List.length_drop]; omega⟩
theorem ten_step (x : Int) (i : Nat) : tenI x (i + 1) = tenI x i * 10 := by
  unfold tenI
  rw [Int.pow_succ, Int.mul_assoc]
theorem dv_le (l : List UInt8) : dv l ≤ 1125899906842624 := by unfold dv; split <;> omega
theorem ten_nat (d : Nat) (i : Nat) : tenI (d : Int) i = ((d * 10 ^ i : Nat) : Int) := by
  unfold tenI
  rw [Int.natCast_mul, Int.natCast_pow]
  rfl
section
variable {Φ : World → Prop} (hst : ∀ w w', Φ w → Below w.heap.size w w' → Φ w') (hΦ : ∀ w, Φ w → Vs w)
include hst hΦ
theorem s_Ps : Sound Tryd.prog Φ (ΓPs tpB cwB cpB miB coB dvB okB) :=
  Sound.cons (by kernel_rfl) (fun args pr v h hp => by
      split at h <;> cases h
      exact fun w _ => (Tryd.strings_CutPrefix _ _ w).mono (by rintro e w' ⟨rfl, rfl⟩; exact ⟨rfl, Below.refl _ _⟩))
  (Sound.cons (by kernel_rfl) (fun args pr v h hp => by
      split at h <;> cases h
      exact fun w hw => by
        obtain ⟨m, hm⟩ := hΦ w hw
        exact (Tryd.strings_Cut _ _ m w (sl_size hp) hm).mono (by rintro e w' ⟨rfl, n, rfl⟩; exact ⟨rfl, below_drewN (Below.refl _ _) n⟩))
  (Sound.cons (by kernel_rfl) (fun args pr v h hp => by
      split at h <;> cases h
      exact c_digits hst _ hp) Sound.nil))
theorem c_parse5 (s : ByteArray) (h : SL s) : Ans Tryd.prog Φ 49 [.string s] (.tuple #[.int .i64 (parV s), .int .i64 (parE s)]) := by
  unfold SL at h
  refine fn_by hst (s_Ps hst hΦ) (vc_parse5 s tpB cwB cpB miB coB dvB okB _) ?_
  have key := par_same (body s.data.toList) (neg s.data.toList)
  have hb := body_len s.data.toList
  have hc := cut_len (body s.data.toList) 45
  have he := cut_len (Lib.cut (body s.data.toList) [45]).2.1 46
  have hSL : SL s := h
  have e1 : tpB s (ByteArray.mk #[45]) = ⟨(body s.data.toList).toArray⟩ := rfl
  have e2 : miB s (ByteArray.mk #[45]) = neg s.data.toList := rfl
  have hV : parV s = (parL s.data.toList).1 := rfl
  have hE : parE s = (parL s.data.toList).2 := rfl
  have hP : parL s.data.toList = rT ((body s.data.toList).takeWhile dig) ((body s.data.toList).dropWhile dig) (neg s.data.toList) := rfl
  rw [hV, hE, hP, ← key, e1, e2]
  clear hV hE hP e1 e2 key
  generalize neg s.data.toList = mi at *
  generalize body s.data.toList = b at *
  have e3 : cwB ⟨b.toArray⟩ (ByteArray.mk #[45]) = ⟨(Lib.cut b [45]).1.toArray⟩ := rfl
  have e4 : cpB ⟨b.toArray⟩ (ByteArray.mk #[45]) = ⟨(Lib.cut b [45]).2.1.toArray⟩ := rfl
  have e5 : coB ⟨b.toArray⟩ (ByteArray.mk #[45]) = (Lib.cut b [45]).2.2 := rfl
  rw [e3, e4, e5]
  clear e3 e4 e5
  generalize (Lib.cut b [45]).1 = deg at *
  generalize (Lib.cut b [45]).2.1 = rest at *
  generalize (Lib.cut b [45]).2.2 = ok at *
  have e3 : cwB ⟨rest.toArray⟩ (ByteArray.mk #[46]) = ⟨(Lib.cut rest [46]).1.toArray⟩ := rfl
  have e4 : cpB ⟨rest.toArray⟩ (ByteArray.mk #[46]) = ⟨(Lib.cut rest [46]).2.1.toArray⟩ := rfl
  have e5 : coB ⟨rest.toArray⟩ (ByteArray.mk #[46]) = (Lib.cut rest [46]).2.2 := rfl
  rw [e3, e4, e5]
  clear e3 e4 e5
  generalize (Lib.cut rest [46]).1 = mins at *
  generalize (Lib.cut rest [46]).2.1 = part at *
  generalize (Lib.cut rest [46]).2.2 = po at *
  have sl : ∀ l : List UInt8, l.length ≤ 4000 → SL ⟨l.toArray⟩ := fun l hl => hl
  have dB : ∀ l : List UInt8, dvB ⟨l.toArray⟩ = ((dv l : Nat) : Int) := fun l => rfl
  have oB : ∀ l : List UInt8, okB ⟨l.toArray⟩ = okD l := fun l => rfl
  refine ⟨hSL, sl _ (by omega), sl _ (by omega), sl _ (by omega), sl _ (by omega), ?_⟩
  rw [dB deg, dB mins, dB part, oB deg, oB mins, oB part]
  cases po
  · rw [bcase_false]
    exact par_fin deg mins part ok false mi 0 (fun v => v = .tuple #[.int .i64 (pT deg mins part ok false mi).1, .int .i64 (pT deg mins part ok false mi).2]) (by rintro ⟨h, -⟩; cases h) rfl (by omega) rfl
  · rw [bcase_true]
    refine ⟨sl _ (by omega), bcase_iff.mpr ⟨fun q => ?_, fun q => bcase_iff.mpr ⟨fun q2 => ?_, fun q2 => ?_⟩⟩⟩
    · rw [pT_no (Or.inl ⟨rfl, Or.inl (by simpa using q)⟩)]
    · have q2 := of_decide_eq_true q2
      rw [mk_size] at q2
      rw [pT_no (Or.inl ⟨rfl, Or.inr (by omega)⟩)]
    · rw [Bool.not_eq_false'] at q
      have q2 := of_decide_eq_false q2
      rw [mk_size] at q2
      have wX : IntKind.i64.wrap (3 - ((ByteArray.mk part.toArray).size : Int)) = ((3 - part.length : Nat) : Int) := by rw [mk_size, wrap_in (by omega)]; omega
      rw [wX]
      have bd := dv_le part
      have tb : ∀ i, i ≤ 3 → 0 ≤ tenI ((dv part : Nat) : Int) i ∧ tenI ((dv part : Nat) : Int) i ≤ 1125899906842624000 := fun i hi => by
        rw [ten_nat]
        have : i = 0 ∨ i = 1 ∨ i = 2 ∨ i = 3 := by omega
        rcases this with e | e | e | e <;> subst e <;> omega
      refine ⟨0, ⟨rfl, rfl, rfl, rfl, rfl, rfl, rfl, rfl, rfl, rfl, rfl, rfl, rfl, by unfold tenI; omega, rfl, rfl, trivial⟩, (show ((0 : Nat) : Int) ≤ ((3 - part.length : Nat) : Int) by omega), fun i hi => ?_⟩
      have hi : (i : Int) ≤ ((3 - part.length : Nat) : Int) := hi
      have hb := tb i (by omega)
      refine bcase_iff.mpr ⟨fun q3 => ?_, fun q3 => ?_⟩
      · have q3 := of_decide_eq_true q3
        refine ⟨i + 1, ⟨rfl, rfl, rfl, rfl, rfl, rfl, rfl, rfl, rfl, rfl, rfl, rfl, rfl, ?_, rfl, ?_, trivial⟩, (show ((i + 1 : Nat) : Int) ≤ ((3 - part.length : Nat) : Int) by omega), ?_⟩
        · have := tb (i + 1) (by omega)
          rw [ten_step] at this ⊢
          rw [wrap_in (by omega)]
        · rw [wrap_in (by omega)]; rfl
        · show (((3 - part.length : Nat) : Int)).toNat - (i + 1) < (((3 - part.length : Nat) : Int)).toNat - i
          omega
      · have q3 := of_decide_eq_false q3
        have e : i = 3 - part.length := by omega
        exact par_fin deg mins part ok true mi _ (fun v => v = .tuple #[.int .i64 (pT deg mins part ok true mi).1, .int .i64 (pT deg mins part ok true mi).2]) (by rintro ⟨-, h | h⟩; rw [q] at h; cases h; omega) (by rw [if_pos rfl, ← e, ten_nat]) hb rfl
end
end Go.Proofs.YtkcelhhhbbpbpaaDoor
