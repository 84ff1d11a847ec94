/- Contracts: the reference's texts of angles. -/
import Derived.Test.YtkcelhhhbbpbpaaDoorTxV
namespace Go.Proofs.YtkcelhhhbbpbpaaDoor
open Go Go.Abs Go.RowKit
set_option linter.unusedVariables false
set_option linter.unusedSimpArgs false
theorem pick_yes {c : Prop} [Decidable c] {x y : Int} (h : c) : pick c x y = x := if_pos h
theorem pick_no {c : Prop} [Decidable c] {x y : Int} (h : ¬ c) : pick c x y = y := if_neg h
theorem push_one (b : UInt8) (l : List UInt8) : ByteArray.empty.push b ++ ByteArray.mk l.toArray = ByteArray.mk (b :: l).toArray := bytes_app [b] l
theorem size_mk (l : List UInt8) : (ByteArray.mk l.toArray).size = l.length := by simp [ByteArray.size]
theorem digB_nat (a k : Nat) : digB (a : Int) (k : Int) = ⟨(digL a k).toArray⟩ := by unfold digB; rw [Int.toNat_natCast, Int.toNat_natCast]
theorem enc_digit : ∀ d : Fin 10, Utf8.encode (48 + (d.val : Int)) = ⟨#[UInt8.ofNat (48 + d.val)]⟩ := by decide
theorem enc_nat {d : Nat} (h : d < 10) : Utf8.encode (48 + (d : Int)) = ⟨[UInt8.ofNat (48 + d)].toArray⟩ := enc_digit ⟨d, h⟩
theorem wrap32 {x : Int} (h : 0 ≤ x ∧ x ≤ 1000) : IntKind.i32.wrap x = x := by
  exact IntWalk.i32_in x (by omega)
theorem wrap8 {x : Int} (h : 0 ≤ x ∧ x ≤ 255) : IntKind.u8.wrap x = x := by
  have h1 : IntKind.u8.wrap x = x % 256 := rfl
  rw [h1]; omega
theorem dig_byte (m : Nat) : UInt8.ofNat (IntKind.u8.wrap (IntKind.i64.wrap (48 + (m : Int).tmod 10))).toNat = UInt8.ofNat (48 + m % 10) := by
  have e : (m : Int).tmod 10 = ((m % 10 : Nat) : Int) := rfl
  rw [e, wrap_in (by omega), wrap8 (by omega)]
  congr 1
theorem nat_tdiv (m d : Nat) : (m : Int).tdiv (d : Int) = ((m / d : Nat) : Int) := rfl
theorem nat_tmod (m d : Nat) : (m : Int).tmod (d : Int) = ((m % d : Nat) : Int) := rfl
/-- What is asked behind the sign of a text. -/
def txtTree (p : List UInt8) (x : Int) (K : Value → Prop) : Prop :=
 (DgOk (IntKind.i64.wrap (x.tdiv 60000)) 1 ∧
 bcase (tooLong (ByteArray.mk p.toArray) (digB (IntKind.i64.wrap (x.tdiv 60000)) 1)) False
 (bcase (tooLong (ByteArray.mk p.toArray ++ digB (IntKind.i64.wrap (x.tdiv 60000)) 1) (ByteArray.mk #[45])) False
 (DgOk (IntKind.i64.wrap ((x.tmod 60000).tdiv 1000)) 2 ∧
 bcase (tooLong (ByteArray.mk p.toArray ++ digB (IntKind.i64.wrap (x.tdiv 60000)) 1 ++ ByteArray.mk #[45]) (digB (IntKind.i64.wrap ((x.tmod 60000).tdiv 1000)) 2)) False
 (bcase (tooLong (ByteArray.mk p.toArray ++ digB (IntKind.i64.wrap (x.tdiv 60000)) 1 ++ ByteArray.mk #[45] ++ digB (IntKind.i64.wrap ((x.tmod 60000).tdiv 1000)) 2) (ByteArray.mk #[46])) False
 (bcase ((x.tmod 1000).tmod 100 == 0)
 (DgOk (IntKind.i64.wrap ((x.tmod 1000).tdiv 100)) 1 ∧
 bcase (tooLong (ByteArray.mk p.toArray ++ digB (IntKind.i64.wrap (x.tdiv 60000)) 1 ++ ByteArray.mk #[45] ++ digB (IntKind.i64.wrap ((x.tmod 60000).tdiv 1000)) 2 ++ ByteArray.mk #[46]) (digB (IntKind.i64.wrap ((x.tmod 1000).tdiv 100)) 1)) False
 (K (Value.string (ByteArray.mk p.toArray ++ digB (IntKind.i64.wrap (x.tdiv 60000)) 1 ++ ByteArray.mk #[45] ++ digB (IntKind.i64.wrap ((x.tmod 60000).tdiv 1000)) 2 ++ ByteArray.mk #[46] ++ digB (IntKind.i64.wrap ((x.tmod 1000).tdiv 100)) 1))))
 (DgOk (x.tmod 1000) 3 ∧
 bcase (tooLong (ByteArray.mk p.toArray ++ digB (IntKind.i64.wrap (x.tdiv 60000)) 1 ++ ByteArray.mk #[45] ++ digB (IntKind.i64.wrap ((x.tmod 60000).tdiv 1000)) 2 ++ ByteArray.mk #[46]) (digB (x.tmod 1000) 3)) False
 (K (Value.string (ByteArray.mk p.toArray ++ digB (IntKind.i64.wrap (x.tdiv 60000)) 1 ++ ByteArray.mk #[45] ++ digB (IntKind.i64.wrap ((x.tmod 60000).tdiv 1000)) 2 ++ ByteArray.mk #[46] ++ digB (x.tmod 1000) 3)))))))))
theorem txt_ok (p : List UInt8) (hp : p.length ≤ 1) (m : Nat) (h : m ≤ 1099511627776) {K : Value → Prop} (hk : K (.string ⟨(p ++ coreL m).toArray⟩)) : txtTree p (m : Int) K := by
  unfold txtTree
  have e1 : IntKind.i64.wrap ((m : Int).tdiv 60000) = ((m / 60000 : Nat) : Int) := by rw [show (m : Int).tdiv 60000 = ((m / 60000 : Nat) : Int) from rfl, wrap_in (by omega)]
  have e2 : IntKind.i64.wrap (((m : Int).tmod 60000).tdiv 1000) = ((m % 60000 / 1000 : Nat) : Int) := by rw [show ((m : Int).tmod 60000).tdiv 1000 = ((m % 60000 / 1000 : Nat) : Int) from rfl, wrap_in (by omega)]
  have e3 : IntKind.i64.wrap (((m : Int).tmod 1000).tdiv 100) = ((m % 1000 / 100 : Nat) : Int) := by rw [show ((m : Int).tmod 1000).tdiv 100 = ((m % 1000 / 100 : Nat) : Int) from rfl, wrap_in (by omega)]
  have e4 : (m : Int).tmod 1000 = ((m % 1000 : Nat) : Int) := rfl
  have e5 : ((m : Int).tmod 1000).tmod 100 = ((m % 1000 % 100 : Nat) : Int) := rfl
  rw [e1, e2, e3, e5, e4]
  have d1 : digB ((m / 60000 : Nat) : Int) 1 = ⟨(Lib.decDigits (m / 60000)).toArray⟩ := by rw [← digL_one]; exact digB_nat _ 1
  have d2 : digB ((m % 60000 / 1000 : Nat) : Int) 2 = ⟨(padL 2 (m % 60000 / 1000)).toArray⟩ := by rw [← digL_pad 2 _ (by omega)]; exact digB_nat _ 2
  have d3 : digB ((m % 1000 / 100 : Nat) : Int) 1 = ⟨(Lib.decDigits (m % 1000 / 100)).toArray⟩ := by rw [← digL_one]; exact digB_nat _ 1
  have d4 : digB ((m % 1000 : Nat) : Int) 3 = ⟨(padL 3 (m % 1000)).toArray⟩ := by rw [← digL_pad 3 _ (by omega)]; exact digB_nat _ 3
  have h1 := dec_le (m / 60000)
  have h2 := pad_len 2 (m % 60000 / 1000) (by omega) (by omega)
  have h3 := pad_len 3 (m % 1000) (by omega) (by omega)
  have h4 := dec_le (m % 1000 / 100)
  have hc : coreL m = Lib.decDigits (m / 60000) ++ [45] ++ padL 2 (m % 60000 / 1000) ++ [46] ++ (if m % 1000 % 100 = 0 then Lib.decDigits (m % 1000 / 100) else padL 3 (m % 1000)) := rfl
  rw [hc] at hk
  rw [d1, d2, d3, d4, show (ByteArray.mk #[45]) = ⟨[45].toArray⟩ from rfl, show (ByteArray.mk #[46]) = ⟨[46].toArray⟩ from rfl]
  have q1 : DgOk ((m / 60000 : Nat) : Int) 1 := by unfold DgOk; omega
  have q2 : DgOk ((m % 60000 / 1000 : Nat) : Int) 2 := by unfold DgOk; omega
  have q3 : DgOk ((m % 1000 / 100 : Nat) : Int) 1 := by unfold DgOk; omega
  have q4 : DgOk ((m % 1000 : Nat) : Int) 3 := by unfold DgOk; omega
  generalize Lib.decDigits (m / 60000) = A at *
  generalize padL 2 (m % 60000 / 1000) = B at *
  generalize Lib.decDigits (m % 1000 / 100) = C at *
  generalize padL 3 (m % 1000) = D at *
  rw [bytes_app, bytes_app, bytes_app, bytes_app]
  rw [not_long (by rw [size_mk, size_mk]; omega), not_long (by rw [size_mk, size_mk]; simp; omega), not_long (by rw [size_mk, size_mk]; simp; omega), not_long (by rw [size_mk, size_mk]; simp; omega)]
  rw [bcase_false, bcase_false, bcase_false, bcase_false]
  refine ⟨q1, q2, bcase_iff.mpr ⟨fun q => ⟨q3, ?_⟩, fun q => ⟨q4, ?_⟩⟩⟩
  · have q : m % 1000 % 100 = 0 := by have := eq_of_beq q; omega
    rw [if_pos q] at hk
    rw [not_long (by rw [size_mk, size_mk]; simp; omega), bcase_false, bytes_app]
    simpa [List.append_assoc] using hk
  · have q : ¬ m % 1000 % 100 = 0 := fun e => by rw [e] at q; simp at q
    rw [if_neg q] at hk
    rw [not_long (by rw [size_mk, size_mk]; simp; omega), bcase_false, bytes_app]
    simpa [List.append_assoc] using hk
section
variable {Φ : World → Prop} (hst : ∀ w w', Φ w → Below w.heap.size w w' → Φ w')
include hst
theorem c_r5digits (n k : Int) (h : DgOk n k) : Ans Tryd.prog Φ 32 [num n, num k] (.string (digB n k)) := by
  obtain ⟨n0, n1, k0, k1⟩ := h
  refine fn_by hst Sound.nil (vc_r5digits n k _) ?_
  refine ⟨(n.toNat, []), ⟨by show n = ((n.toNat : Nat) : Int); omega, by simp, rfl, trivial⟩, ⟨by show ((n.toNat : Nat) : Int) ≤ n; omega, by simp⟩, fun s hs => ?_⟩
  obtain ⟨m, l⟩ := s
  obtain ⟨h1, h2⟩ := hs
  dsimp only at h1 h2 ⊢
  have hl : l.length ≤ 13 := by
    have := congrArg List.length h2
    rw [List.length_append] at this
    have b := digL_len 13 n.toNat k.toNat (by omega)
    omega
  have sv : strV [IntKind.u8.wrap (IntKind.i64.wrap (48 + (m : Int).tmod 10))] = ByteArray.empty.push (UInt8.ofNat (48 + m % 10)) := by rw [← dig_byte]; rfl
  rw [sv, not_long (by have := size_mk l; show 1 + (ByteArray.mk l.toArray).size ≤ _; omega), bcase_false, push_one]
  have w1 : IntKind.i64.wrap ((m : Int).tdiv 10) = ((m / 10 : Nat) : Int) := by rw [show (m : Int).tdiv 10 = ((m / 10 : Nat) : Int) from rfl, wrap_in (by omega)]
  have w2 : IntKind.i64.wrap (k - (l.length : Int) - 1) = k - ((l.length + 1 : Nat) : Int) := by rw [wrap_in (by omega)]; omega
  have step : ¬ (m = 0 ∧ (k - (l.length : Int)).toNat = 0) → ∃ s_1 : Nat × List UInt8,
      (IntKind.i64.wrap ((m : Int).tdiv 10) = (s_1.1 : Int) ∧ IntKind.i64.wrap (k - (l.length : Int) - 1) = k - (s_1.2.length : Int) ∧ ByteArray.mk (UInt8.ofNat (48 + m % 10) :: l).toArray = ByteArray.mk s_1.2.toArray ∧ True) ∧
      ((s_1.1 : Int) ≤ n ∧ digL s_1.1 (k - (s_1.2.length : Int)).toNat ++ s_1.2 = digL n.toNat k.toNat) ∧ s_1.1 + (k - (s_1.2.length : Int)).toNat < m + (k - (l.length : Int)).toNat := fun hz => by
    refine ⟨(m / 10, UInt8.ofNat (48 + m % 10) :: l), ⟨w1, w2, rfl, trivial⟩, ⟨by show ((m / 10 : Nat) : Int) ≤ n; omega, ?_⟩, ?_⟩
    · show digL (m / 10) (k - ((l.length + 1 : Nat) : Int)).toNat ++ _ = _
      rw [← h2, digL_step hz, show (k - ((l.length + 1 : Nat) : Int)).toNat = (k - (l.length : Int)).toNat - 1 by omega]
      simp
    · show m / 10 + (k - ((l.length + 1 : Nat) : Int)).toNat < _
      omega
  refine bcase_iff.mpr ⟨fun q => step (by have := of_decide_eq_true q; omega), fun q => bcase_iff.mpr ⟨fun q2 => step (by have := of_decide_eq_true q2; omega), fun q2 => ?_⟩⟩
  have q := of_decide_eq_false q
  have q2 := of_decide_eq_false q2
  have e1 : m = 0 := by omega
  have e2 : (k - (l.length : Int)).toNat = 0 := by omega
  rw [e1, e2, digL_zero, List.nil_append] at h2
  unfold digB
  rw [h2]
theorem c_r5text (n : Int) (h : Fit n) : Ans Tryd.prog Φ 19 [num n] (.string (textB n)) := by
  refine fn_by hst (Sound.cons (by kernel_rfl) (fun args p v h hp => by unfold sDigits at h; split at h <;> cases h; exact c_r5digits hst _ _ hp) Sound.nil) (vc_r5text n _) ?_
  unfold Fit at h
  refine bcase_iff.mpr ⟨fun q => ?_, fun q => ?_⟩
  · have q := of_decide_eq_true q
    have e : IntKind.i64.wrap (0 - n) = ((n.natAbs : Nat) : Int) := by rw [wrap_in (by omega)]; omega
    have := txt_ok [45] (by decide) n.natAbs (by omega) (K := fun v => v = .string (textB n)) (by unfold textB textL; rw [if_pos q]; rfl)
    rw [← e] at this
    unfold txtTree at this
    exact this
  · have q := of_decide_eq_false q
    have e : n = ((n.natAbs : Nat) : Int) := by omega
    have := txt_ok [] (by decide) n.natAbs (by omega) (K := fun v => v = .string (textB n)) (by unfold textB textL; rw [if_neg q]; rfl)
    rw [← e] at this
    unfold txtTree at this
    exact this
end
end Go.Proofs.YtkcelhhhbbpbpaaDoor
