/- Contracts of the functions of dip and of its reference over texts. -/
import Derived.Test.YtofnffcdbbiohaaGreatDoorDpCtE
import Derived.Test.YtofnffcdbbiohaaGreatDoorTextA
import Derived.Test.YtofnffcdbbiohaaGreatDoorDpVcT
namespace Go.Proofs.YtofnffcdbbiohaaGreatDoor.Dp
open Go Go.Abs Go.RowKit
set_option linter.unusedVariables false
set_option linter.unusedSimpArgs false
theorem push_one (b : UInt8) (l : List UInt8) : ByteArray.empty.push b ++ ByteArray.mk l.toArray = ByteArray.mk (b :: l).toArray := bytes_app [b] l
theorem size_mk (l : List UInt8) : (ByteArray.mk l.toArray).size = l.length := by simp [ByteArray.size]
theorem digB_nat (a k : Nat) : digB (a : Int) (k : Int) = ⟨(digL a k).toArray⟩ := by unfold digB; rw [Int.toNat_natCast, Int.toNat_natCast]
theorem enc_digit : ∀ d : Fin 10, Utf8.encode (48 + (d.val : Int)) = ⟨#[UInt8.ofNat (48 + d.val)]⟩ := by decide
theorem enc_nat {d : Nat} (h : d < 10) : Utf8.encode (48 + (d : Int)) = ⟨[UInt8.ofNat (48 + d)].toArray⟩ := enc_digit ⟨d, h⟩
theorem wrap32 {x : Int} (h : 0 ≤ x ∧ x ≤ 1000) : IntKind.i32.wrap x = x := by
  exact IntWalk.i32_in x (by omega)
theorem wrap8 {x : Int} (h : 0 ≤ x ∧ x ≤ 255) : IntKind.u8.wrap x = x := by
  have h1 : IntKind.u8.wrap x = x % 256 := rfl
  rw [h1]; omega
theorem dig_byte (m : Nat) : UInt8.ofNat (IntKind.u8.wrap (IntKind.i64.wrap (48 + (m : Int).tmod 10))).toNat = UInt8.ofNat (48 + m % 10) := by
  have e : (m : Int).tmod 10 = ((m % 10 : Nat) : Int) := rfl
  rw [e, wrap_in (by omega), wrap8 (by omega)]
  congr 1
theorem nat_tdiv (m d : Nat) : (m : Int).tdiv (d : Int) = ((m / d : Nat) : Int) := rfl
theorem nat_tmod (m d : Nat) : (m : Int).tmod (d : Int) = ((m % d : Nat) : Int) := rfl
theorem core_len (m : Nat) : (coreL m).length ≤ m + 40 := by
  unfold coreL
  have h1 := dec_le (m / 60000)
  have h2 := pad_len 2 (m % 60000 / 1000) (by omega) (by omega)
  have h3 := pad_len 3 (m % 1000) (by omega) (by omega)
  have h4 := dec_le (m % 1000 / 100)
  split <;> simp <;> omega
theorem textB_size {n : Int} (h : Fit n) : (textB n).size ≤ 1099511627900 := by
  unfold textB textL
  unfold Fit at h
  have := core_len n.natAbs
  split <;> simp [ByteArray.size] <;> omega
theorem sp_size : (ByteArray.mk #[32, 46, 46, 32]).size = 4 := rfl
theorem st_tabs : ∀ w w', Tabs w → Below w.heap.size w w' → Tabs w' := fun _ _ h hb => h.below hb (Nat.le_refl _)
/-- What is asked behind the sign of a text. -/
def txtTree (p : List UInt8) (x : Int) (K : Value → Prop) : Prop :=
 (DgOk (IntKind.i64.wrap (x.tdiv 60000)) 1 ∧
 bcase (tooLong (ByteArray.mk p.toArray) (digB (IntKind.i64.wrap (x.tdiv 60000)) 1)) False
 (bcase (tooLong (ByteArray.mk p.toArray ++ digB (IntKind.i64.wrap (x.tdiv 60000)) 1) (ByteArray.mk #[45])) False
 (DgOk (IntKind.i64.wrap ((x.tmod 60000).tdiv 1000)) 2 ∧
 bcase (tooLong (ByteArray.mk p.toArray ++ digB (IntKind.i64.wrap (x.tdiv 60000)) 1 ++ ByteArray.mk #[45]) (digB (IntKind.i64.wrap ((x.tmod 60000).tdiv 1000)) 2)) False
 (bcase (tooLong (ByteArray.mk p.toArray ++ digB (IntKind.i64.wrap (x.tdiv 60000)) 1 ++ ByteArray.mk #[45] ++ digB (IntKind.i64.wrap ((x.tmod 60000).tdiv 1000)) 2) (ByteArray.mk #[46])) False
 (bcase ((x.tmod 1000).tmod 100 == 0)
 (DgOk (IntKind.i64.wrap ((x.tmod 1000).tdiv 100)) 1 ∧
 bcase (tooLong (ByteArray.mk p.toArray ++ digB (IntKind.i64.wrap (x.tdiv 60000)) 1 ++ ByteArray.mk #[45] ++ digB (IntKind.i64.wrap ((x.tmod 60000).tdiv 1000)) 2 ++ ByteArray.mk #[46]) (digB (IntKind.i64.wrap ((x.tmod 1000).tdiv 100)) 1)) False
 (K (Value.string (ByteArray.mk p.toArray ++ digB (IntKind.i64.wrap (x.tdiv 60000)) 1 ++ ByteArray.mk #[45] ++ digB (IntKind.i64.wrap ((x.tmod 60000).tdiv 1000)) 2 ++ ByteArray.mk #[46] ++ digB (IntKind.i64.wrap ((x.tmod 1000).tdiv 100)) 1))))
 (DgOk (x.tmod 1000) 3 ∧
 bcase (tooLong (ByteArray.mk p.toArray ++ digB (IntKind.i64.wrap (x.tdiv 60000)) 1 ++ ByteArray.mk #[45] ++ digB (IntKind.i64.wrap ((x.tmod 60000).tdiv 1000)) 2 ++ ByteArray.mk #[46]) (digB (x.tmod 1000) 3)) False
 (K (Value.string (ByteArray.mk p.toArray ++ digB (IntKind.i64.wrap (x.tdiv 60000)) 1 ++ ByteArray.mk #[45] ++ digB (IntKind.i64.wrap ((x.tmod 60000).tdiv 1000)) 2 ++ ByteArray.mk #[46] ++ digB (x.tmod 1000) 3)))))))))
theorem txt_ok (p : List UInt8) (hp : p.length ≤ 1) (m : Nat) (h : m ≤ 1099511627776) {K : Value → Prop} (hk : K (.string ⟨(p ++ coreL m).toArray⟩)) : txtTree p (m : Int) K := by
  unfold txtTree
  have e1 : IntKind.i64.wrap ((m : Int).tdiv 60000) = ((m / 60000 : Nat) : Int) := by rw [show (m : Int).tdiv 60000 = ((m / 60000 : Nat) : Int) from rfl, wrap_in (by omega)]
  have e2 : IntKind.i64.wrap (((m : Int).tmod 60000).tdiv 1000) = ((m % 60000 / 1000 : Nat) : Int) := by rw [show ((m : Int).tmod 60000).tdiv 1000 = ((m % 60000 / 1000 : Nat) : Int) from rfl, wrap_in (by omega)]
  have e3 : IntKind.i64.wrap (((m : Int).tmod 1000).tdiv 100) = ((m % 1000 / 100 : Nat) : Int) := by rw [show ((m : Int).tmod 1000).tdiv 100 = ((m % 1000 / 100 : Nat) : Int) from rfl, wrap_in (by omega)]
  have e4 : (m : Int).tmod 1000 = ((m % 1000 : Nat) : Int) := rfl
  have e5 : ((m : Int).tmod 1000).tmod 100 = ((m % 1000 % 100 : Nat) : Int) := rfl
  rw [e1, e2, e3, e5, e4]
  have d1 : digB ((m / 60000 : Nat) : Int) 1 = ⟨(Lib.decDigits (m / 60000)).toArray⟩ := by rw [← digL_one]; exact digB_nat _ 1
  have d2 : digB ((m % 60000 / 1000 : Nat) : Int) 2 = ⟨(padL 2 (m % 60000 / 1000)).toArray⟩ := by rw [← digL_pad 2 _ (by omega)]; exact digB_nat _ 2
  have d3 : digB ((m % 1000 / 100 : Nat) : Int) 1 = ⟨(Lib.decDigits (m % 1000 / 100)).toArray⟩ := by rw [← digL_one]; exact digB_nat _ 1
  have d4 : digB ((m % 1000 : Nat) : Int) 3 = ⟨(padL 3 (m % 1000)).toArray⟩ := by rw [← digL_pad 3 _ (by omega)]; exact digB_nat _ 3
  have h1 := dec_le (m / 60000)
  have h2 := pad_len 2 (m % 60000 / 1000) (by omega) (by omega)
  have h3 := pad_len 3 (m % 1000) (by omega) (by omega)
  have h4 := dec_le (m % 1000 / 100)
  have hc : coreL m = Lib.decDigits (m / 60000) ++ [45] ++ padL 2 (m % 60000 / 1000) ++ [46] ++ (if m % 1000 % 100 = 0 then Lib.decDigits (m % 1000 / 100) else padL 3 (m % 1000)) := rfl
  rw [hc] at hk
  rw [d1, d2, d3, d4, show (ByteArray.mk #[45]) = ⟨[45].toArray⟩ from rfl, show (ByteArray.mk #[46]) = ⟨[46].toArray⟩ from rfl]
  have q1 : DgOk ((m / 60000 : Nat) : Int) 1 := by unfold DgOk; omega
  have q2 : DgOk ((m % 60000 / 1000 : Nat) : Int) 2 := by unfold DgOk; omega
  have q3 : DgOk ((m % 1000 / 100 : Nat) : Int) 1 := by unfold DgOk; omega
  have q4 : DgOk ((m % 1000 : Nat) : Int) 3 := by unfold DgOk; omega
  generalize Lib.decDigits (m / 60000) = A at *
  generalize padL 2 (m % 60000 / 1000) = B at *
  generalize Lib.decDigits (m % 1000 / 100) = C at *
  generalize padL 3 (m % 1000) = D at *
  rw [bytes_app, bytes_app, bytes_app, bytes_app]
  rw [not_long (by rw [size_mk, size_mk]; omega), not_long (by rw [size_mk, size_mk]; simp; omega), not_long (by rw [size_mk, size_mk]; simp; omega), not_long (by rw [size_mk, size_mk]; simp; omega)]
  rw [bcase_false, bcase_false, bcase_false, bcase_false]
  refine ⟨q1, q2, bcase_iff.mpr ⟨fun q => ⟨q3, ?_⟩, fun q => ⟨q4, ?_⟩⟩⟩
  · have q : m % 1000 % 100 = 0 := by have := eq_of_beq q; omega
    rw [if_pos q] at hk
    rw [not_long (by rw [size_mk, size_mk]; simp; omega), bcase_false, bytes_app]
    simpa [List.append_assoc] using hk
  · have q : ¬ m % 1000 % 100 = 0 := fun e => by rw [e] at q; simp at q
    rw [if_neg q] at hk
    rw [not_long (by rw [size_mk, size_mk]; simp; omega), bcase_false, bytes_app]
    simpa [List.append_assoc] using hk
section
variable {Φ : World → Prop} (hst : ∀ w w', Φ w → Below w.heap.size w w' → Φ w')
include hst
omit hst in
theorem itoa_neg {m : Nat} (h : 0 < m) : itoaB (-(m : Int)) = ⟨(45 :: Lib.decDigits m).toArray⟩ := by
  unfold itoaB Lib.itoa
  rw [if_pos (by omega), Int.natAbs_neg, Int.natAbs_natCast]
omit hst in
theorem itoa_pos (m : Nat) : itoaB (m : Int) = ⟨(Lib.decDigits m).toArray⟩ := by
  unfold itoaB
  rw [itoa_nat]
omit hst in
theorem itoa_len (n : Int) (h : I64 n) : (itoaB n).size ≤ 9223372036854775900 := by
  unfold I64 at h
  rcases Int.lt_or_le n 0 with q | q
  · have e : n = -((n.natAbs : Nat) : Int) := by omega
    rw [e, itoa_neg (by omega), size_mk, List.length_cons]
    have := dec_le n.natAbs
    omega
  · have e : n = ((n.natAbs : Nat) : Int) := by omega
    rw [e, itoa_pos, size_mk]
    have := dec_le n.natAbs
    omega
omit hst in
theorem toList_inj {a b : ByteArray} (h : a.toList = b.toList) : a = b := by
  rw [ByteArray.toList_eq, ByteArray.toList_eq] at h
  obtain ⟨⟨x⟩⟩ := a
  obtain ⟨⟨y⟩⟩ := b
  have h : x = y := h
  rw [h]
theorem c_eqS (xs ys : List ByteArray) (hx : xs.length ≤ 9223372036854775807) (hy : ys.length ≤ 9223372036854775807) : RAns Tryz.prog Φ 11 [.one (bR xs), .one (bR ys)] [.one (.v (.bool (decide (xs = ys))))] := by
  refine rfn_by hst Sound.nil (vc_eqS xs ys) ?_
  refine bcase_iff.mpr ⟨fun q => ⟨?_, trivial⟩, fun q => ?_⟩
  · have q : xs.length ≠ ys.length := fun e => by rw [e] at q; simp at q
    congr 1
    symm
    exact decide_eq_false (fun e => q (by rw [e]))
  have q : xs.length = ys.length := by have : ((xs.length : Nat) : Int) = (ys.length : Int) := by simpa using q
                                       omega
  refine ⟨0, ⟨rfl, rfl, rfl, rfl, rfl, rfl, trivial⟩, ⟨Nat.zero_le _, q, rfl⟩, fun i hi => ?_⟩
  obtain ⟨i0, _, i2⟩ := hi
  refine bcase_iff.mpr ⟨fun k => ?_, fun k => ?_⟩
  · have k : i < xs.length := by have := of_decide_eq_true k; omega
    have b1 : inB (i : Int) xs.length = true := by unfold inB; simp [k]
    have b2 : inB (i : Int) ys.length = true := by unfold inB; simp; omega
    rw [b1, b2, bcase_true, bcase_true, Int.toNat_natCast, show i.blt xs.length = true from Nat.ble_eq_true_of_le k, show i.blt ys.length = true from Nat.ble_eq_true_of_le (by omega), bcase_true, bcase_true, wrap_in (by omega)]
    have hx' : xs.getD i (ByteArray.mk #[]) = xs[i] := by simp [List.getD, k]
    have hy' : ys.getD i (ByteArray.mk #[]) = ys[i]'(by omega) := by simp [List.getD, show i < ys.length by omega]
    refine bcase_iff.mpr ⟨fun p => ⟨?_, trivial⟩, fun p => ?_⟩
    · congr 1
      symm
      refine decide_eq_false (fun e => ?_)
      subst e
      simp at p
    · have p : xs[i] = ys[i]'(by omega) := by rw [hx', hy'] at p; exact toList_inj (by simpa using p)
      refine ⟨i + 1, ⟨rfl, rfl, rfl, by omega, rfl, rfl, trivial⟩, ⟨k, q, ?_⟩, by omega⟩
      rw [List.take_succ_eq_append_getElem k, List.take_succ_eq_append_getElem (show i < ys.length by omega), i2, p]
  · have k : ¬ i < xs.length := fun e => of_decide_eq_false k (by omega)
    refine ⟨?_, trivial⟩
    congr 1
    symm
    rw [List.take_of_length_le (by omega), List.take_of_length_le (by omega)] at i2
    exact decide_eq_true i2
end
end Go.Proofs.YtofnffcdbbiohaaGreatDoor.Dp
