/- Contracts: the program's reading of digits and of texts of angles. -/
import Derived.Test.YtkcelhhhbbpbpaaDoorParV
import Derived.Test.YtkcelhhhbbpbpaaDoorShelf
namespace Go.Proofs.YtkcelhhhbbpbpaaDoor
open Go Go.Abs Go.RowKit
set_option linter.unusedVariables false
set_option linter.unusedSimpArgs false
theorem inY {j : Int} {n : Nat} (h0 : 0 ≤ j) (h1 : j < n) : inB j n = true := by unfold inB; simp [h0, h1]
theorem inB_iff {j : Int} {n : Nat} : inB j n = true ↔ 0 ≤ j ∧ j < n := by unfold inB; simp
theorem inB_iff' {j : Int} {n : Nat} : inB j n = false ↔ ¬ (0 ≤ j ∧ j < n) := by rw [← Bool.not_eq_true, inB_iff]
theorem bltY {j n : Nat} (h : j < n) : j.blt n = true := Nat.ble_eq_true_of_le h
theorem u8w {n : Int} (h : 0 ≤ n ∧ n ≤ 255) : IntKind.u8.wrap n = n := IntWalk.u8_in _ (by omega)
theorem get_list {s : ByteArray} {i : Nat} (h : i < s.data.toList.length) : s.get! i = s.data.toList[i] := by
  obtain ⟨d⟩ := s
  have h' : i < d.size := by simpa using h
  have e : (ByteArray.mk d).get! i = d[i] := getElem!_pos d i h'
  rw [e]; simp
theorem toList_nil {s : ByteArray} : (s.toList == []) = s.data.toList.isEmpty := by
  rw [ByteArray.toList_eq]
  cases s.data.toList <;> rfl
theorem decN_take {l : List UInt8} {i : Nat} (q : i < l.length) : decN (l.take (i + 1)) = 10 * decN (l.take i) + ((l[i]).toNat - 48) := by rw [← List.take_append_getElem q, decN_snoc]
theorem all_take {l : List UInt8} {i : Nat} (q : i < l.length) (h : (l.take i).all dig = true) (hd : dig l[i] = true) : (l.take (i + 1)).all dig = true := by
  rw [← List.take_append_getElem q, List.all_append, h]; simp [hd]
theorem not_all {l : List UInt8} {i : Nat} (q : i < l.length) (hd : dig l[i] = false) : l.all dig = false := by
  rw [List.all_eq_false]
  exact ⟨l[i], List.getElem_mem q, by rw [hd]; decide⟩
def dvB (s : ByteArray) : Int := ((dv s.data.toList : Nat) : Int)
def okB (s : ByteArray) : Bool := okD s.data.toList
section
variable {Φ : World → Prop} (hst : ∀ w w', Φ w → Below w.heap.size w w' → Φ w')
include hst
theorem c_digits (s : ByteArray) (h : SL s) : Ans Tryd.prog Φ 61 [.string s] (.tuple #[.int .i64 (dvB s), .bool (okB s)]) := by
  unfold SL at h
  refine fn_by hst Sound.nil (vc_digits s s.data.toList _) ?_
  have sz : s.size = s.data.toList.length := Lib.size_eq s
  refine ⟨0, ⟨rfl, rfl, rfl, rfl, rfl, rfl, trivial⟩, ⟨Nat.zero_le _, rfl⟩, fun i ⟨hi, ha⟩ => ?_⟩
  unfold dvB okB dv okD bytesV
  generalize hl : s.data.toList = l at *
  refine bcase_iff.mpr ⟨fun q => ?_, fun q => ?_⟩
  · have q := of_decide_eq_true q
    have q : i < l.length := by omega
    have hc : (l.map fun b => (b.toNat : Int)).getD (i : Int).toNat 0 = ((l[i]).toNat : Int) := by simp [q]
    rw [inY (by omega) (by omega), bcase_true, bltY (by rw [List.length_map]; exact q), bcase_true, hc]
    have st := decN_take q
    have u := (l[i]).toNat_lt
    refine bcase_iff.mpr ⟨fun c => ?_, fun c => bcase_iff.mpr ⟨fun c2 => ?_, fun c2 => ?_⟩⟩
    · have c := of_decide_eq_true c
      rw [not_all q (dig_no.mpr (by omega)), if_neg (by decide)]
      rfl
    · have c2 := of_decide_eq_true c2
      rw [not_all q (dig_no.mpr (by omega)), if_neg (by decide)]
      rfl
    · have c := of_decide_eq_false c
      have c2 := of_decide_eq_false c2
      have hd : dig l[i] = true := dig_iff.mpr (by omega)
      refine ⟨i + 1, ⟨rfl, ?_, rfl, rfl, ?_, rfl, trivial⟩, ⟨by omega, all_take q ha hd⟩, by omega⟩
      · unfold dcI
        rw [st]
        generalize (l[i]).toNat = e at *
        generalize decN (l.take i) = d at *
        rw [u8w (by omega), wrap_in (n := (e : Int) - 48) (by omega), wrap_in (n := 10 * _) (by omega), wrap_in (by omega)]
        split <;> omega
      · rw [wrap_in (by omega)]; rfl
  · have q := of_decide_eq_false q
    have e : i = l.length := by omega
    rw [e, List.take_length] at ha
    unfold dcI
    rw [e, List.take_length, if_pos ha, ha, toList_nil, hl]
    rfl
end
end Go.Proofs.YtkcelhhhbbpbpaaDoor
