/- angle.padded and angle.text: what they write. -/
import Derived.Test.YtidhogcijghogaaGreatDoorRows
import Derived.Test.YtidhogcijghogaaGreatDoorBase
import Derived.Test.YtidhogcijghogaaGreatDoorTextD
import Derived.Test.YtidhogcijghogaaGreatDoorShelf
import Derived.Test.YtidhogcijghogaaGreatDoorBuilder
import Derived.WalkKit
import Derived.WalkLawsBesides
import Derived.WalkSpells
import Derived.BigQuiet
import Derived.Deep.QuietTactic
import Derived.Handy
import Derived.Outline
import Derived.Lib.AppendIntMem
import Derived.WalkSmall
import Derived.LaidMore
namespace Go.Proofs.YtidhogcijghogaaGreatDoor
open Go.RowKit
set_option linter.unusedVariables false
set_option linter.unusedSimpArgs false

def Tabs (w : World) : Prop := Lib.TabIs Tryz.prog w "internal/strconv.uint64pow10" .u64 Lib.pow10Tab
theorem itoa_any (n : Int) (h : I64 n) (w : World) (ht : Tabs w) :
    Calls Tryz.prog 39 #[.int .i64 n] w fun e w' => e = .returned (.string ⟨(Lib.itoa n).toArray⟩) ∧ Below w.heap.size w w' := by
  refine (Tryz.strconv_Itoa n h.1 h.2 w ht).mono ?_
  rintro e w' ⟨rfl, k, os, rfl⟩
  exact ⟨rfl, Go.Lib.below_grow _ _ (Nat.le_refl _) _ _⟩
theorem itoa_nat (n : Nat) : Lib.itoa (n : Int) = Lib.decDigits n := by
  unfold Lib.itoa
  rw [if_neg (by omega)]
  rfl
theorem bytes_app (a b : List UInt8) : (⟨a.toArray⟩ : ByteArray) ++ ⟨b.toArray⟩ = ⟨(a ++ b).toArray⟩ := by
  apply ByteArray.ext
  simp
theorem rep_len (l : List UInt8) (k : Nat) : (Lib.repeatL l k).length = k * l.length := by
  induction k with
  | zero => simp [Lib.repeatL]
  | succ k ih => simp [Lib.repeatL, ih, Nat.add_mul]; try omega
theorem dec_len (n : Nat) (h : n ≤ 999) : 1 ≤ (Lib.decDigits n).length ∧ (Lib.decDigits n).length ≤ 3 := by
  rw [Lib.decDigits]
  split
  · simp
  · rw [Lib.decDigits]
    split
    · simp
    · rw [Lib.decDigits]
      split
      · simp
      · omega
theorem below_tr {a b c : World} (h : Below a.heap.size a b) (k : Below b.heap.size b c) : Below a.heap.size a c := h.trans (k.mono h.size)
set_option maxHeartbeats 1000000 in
theorem padded_any (n k : Nat) (h : n ≤ 999) (hk : k ≤ 9) (w : World) (ht : Tabs w) :
    Calls Tryz.prog 40 #[.int .i64 n, .int .i64 k] w fun e w' => e = .returned (.string ⟨(padL k n).toArray⟩) ∧ Below w.heap.size w w' := by
  have HI := Lib.hid (fun W hW => itoa_any n (by unfold I64; omega) W hW)
  rw [itoa_nat] at HI
  obtain ⟨l1, l2⟩ := dec_len n h
  generalize hl : Lib.decDigits n = l at *
  have HL := Lib.hid hl
  clear hl
  have HC : Hid (max 0 ((k : Int) - (l.length : Int)) = ((k - l.length : Nat) : Int)) := by
    show _ = _
    omega
  have HR := Lib.hid (fun W => Tryz.strings_Repeat ⟨#[48]⟩ (k - l.length) W (by omega) (by show 1 * _ ≤ _; omega))
  have hlen : (Lib.repeatL [48] (k - l.length)).length ≤ 9 := by rw [rep_len]; simp; omega
  have hpad : Hid (padL k n = Lib.repeatL [48] (k - l.length) ++ l) := by show _ = _; unfold padL; rw [HL.out]
  have hap := bytes_app (Lib.repeatL [48] (k - l.length)) l
  have hlen2 : (Lib.repeatL [48] (k - l.length)).length + l.length ≤ 9223372036854775807 := by omega
  go_enter Tryz.func40, Tryz.ntmps40
  go_wp2_with fail
  refine (HI.out _ ht).mono ?_
  rintro e w1 ⟨rfl, hb1⟩
  go_wp2_with fail
  rw [HC.out]
  refine (HR.out _).mono ?_
  rintro e w2 ⟨rfl, hb2⟩
  go_wp2_with fail
  go_ret
  exact ⟨ret_eq (by rw [hpad.out]; rfl), below_tr hb1 hb2⟩
theorem gPow : Tryz.prog.globalNamed "internal/strconv.uint64pow10" = some 0 := by kernel_rfl
theorem Tabs.lt {w : World} (h : Tabs w) : 0 < w.heap.size := by
  have := World.var?_cell gPow h 0
  exact World.block_lt_of_cell? w ⟨0, 0, none⟩ this
theorem Tabs.below {w w' : World} (h : Tabs w) {B : Nat} (hb : Below B w w') (hB : w.heap.size ≤ B) : Tabs w' := var?_below hb gPow (Nat.lt_of_lt_of_le h.lt hB) h
theorem Tabs.alloc {w : World} (h : Tabs w) (o : Obj) : Tabs (w.alloc o) := h.below ((Below.refl w.heap.size w).alloc (Nat.le_refl _) o) (Nat.le_refl _)
theorem dec_le (n : Nat) : (Lib.decDigits n).length ≤ n + 1 := by
  induction n using Nat.strongRecOn with
  | _ n ih =>
    rw [Lib.decDigits]
    split
    · simp
    · have := ih (n / 10) (by omega)
      simp
      omega
theorem pad_len (k n : Nat) (h : n ≤ 999) (hk : k ≤ 9) : (padL k n).length ≤ 12 := by
  have := dec_len n h
  unfold padL
  simp [rep_len]
  omega
theorem bAt_below {T e : TypeId} {B b : Nat} {p : Value} {bs : List Value} {w w' : World} (h : Lib.BuilderAt T e B b p bs w) (hb : Below w.heap.size w w') : Lib.BuilderAt T e B b p bs w' := by
  have hlt := h.lt
  obtain ⟨hB, v, hk, hown, hne⟩ := h
  exact ⟨hB, v, by rw [hb.block b hlt]; exact hk, hown.kept (row := none) ⟨hb.os, hb.tape, hb.output, hb.size, fun k hk _ => hb.block k hk⟩ (by cases v.ownBlock <;> simp), hne⟩
theorem isB_below {T e : TypeId} {B b : Nat} {bs : List Value} {w w' : World} (h : Lib.IsBuilder T e B b bs w) (hb : Below w.heap.size w w') : Lib.IsBuilder T e B b bs w' := by
  rcases h with h | h
  · exact .inl (bAt_below h hb)
  · exact .inr (bAt_below h hb)
def headL (m : Nat) : List UInt8 := Lib.decDigits (m / 60000) ++ [45] ++ padL 2 (m % 60000 / 1000) ++ [46]
def lastL (m : Nat) : List UInt8 := if m % 1000 % 100 = 0 then Lib.decDigits (m % 1000 / 100) else padL 3 (m % 1000)
theorem coreL_eq (m : Nat) : coreL m = headL m ++ lastL m := rfl
set_option maxRecDepth 100000 in
set_option maxHeartbeats 2000000 in
theorem text_pos (m : Nat) (h : m ≤ 1099511627776) (w : World) (ht : Tabs w) :
    Calls Tryz.prog 22 #[.int .i64 m] w fun e w' => e = .returned (.string ⟨(coreL m).toArray⟩) ∧ Below w.heap.size w w' := by
  have hB := Lib.fresh_isBuilder 68 5 w
  have hT0 : Tabs (w.alloc (Obj.cells #[Value.pointer none, Value.slice none 0 0] 68)) := ht.alloc _
  have hb0 : Below w.heap.size w (w.alloc (Obj.cells #[Value.pointer none, Value.slice none 0 0] 68)) := below_alloc (Below.refl _ _) _
  have E1 : Hid ((m : Int) / 60000 = ((m / 60000 : Nat) : Int)) := by show _ = _; omega
  have E2 : Hid ((m : Int) % 60000 / 1000 = ((m % 60000 / 1000 : Nat) : Int)) := by show _ = _; omega
  have E3 : Hid ((m : Int) % 1000 = ((m % 1000 : Nat) : Int)) := by show _ = _; omega
  have E4 : Hid ((m : Int) % 1000 / 100 = ((m % 1000 / 100 : Nat) : Int)) := by show _ = _; omega
  have HI := Lib.hid (fun W hW => itoa_any ((m / 60000 : Nat) : Int) (by unfold I64; omega) W hW)
  have HJ := Lib.hid (fun W hW => itoa_any ((m % 1000 / 100 : Nat) : Int) (by unfold I64; omega) W hW)
  rw [itoa_nat] at HI HJ
  have HP := Lib.hid (fun W hW => padded_any (m % 60000 / 1000) 2 (by omega) (by omega) W hW)
  have HQ := Lib.hid (fun W hW => padded_any (m % 1000) 3 (by omega) (by omega) W hW)
  have HF := Lib.hid (show headL m = Lib.decDigits (m / 60000) ++ [45] ++ padL 2 (m % 60000 / 1000) ++ [46] from rfl)
  have HG := Lib.hid (show coreL m = _ from coreL_eq m)
  have HL := Lib.hid (show lastL m = if m % 1000 % 100 = 0 then Lib.decDigits (m % 1000 / 100) else padL 3 (m % 1000) from rfl)
  have ld := dec_le (m / 60000)
  have lj := dec_le (m % 1000 / 100)
  have lp := pad_len 2 (m % 60000 / 1000) (by omega) (by omega)
  have lq := pad_len 3 (m % 1000) (by omega) (by omega)
  generalize Lib.decDigits (m / 60000) = ls at *
  generalize padL 2 (m % 60000 / 1000) = ps at *
  generalize Lib.decDigits (m % 1000 / 100) = js at *
  generalize padL 3 (m % 1000) = qs at *
  have a1 := bytes_app ls [45]
  have n1 : ls.length + 1 ≤ 9223372036854775807 := by omega
  have a2 := bytes_app (ls ++ [45]) ps
  have n2 : ls.length + 1 + ps.length ≤ 9223372036854775807 := by omega
  have a3 := bytes_app (ls ++ [45] ++ ps) [46]
  have n3 : ls.length + 1 + ps.length + 1 ≤ 9223372036854775807 := by omega
  have HT := Lib.hid ht
  clear ht
  have HB0 := Lib.hid hB
  clear hB
  have hq : ((m : Int) % 100 == 0) = decide (m % 1000 % 100 = 0) := by
    by_cases q : m % 1000 % 100 = 0
    · rw [decide_eq_true q]; exact beq_iff_eq.2 (by omega)
    · rw [decide_eq_false q]; exact beq_eq_false_iff_ne.2 (by omega)
  by_cases hz : m % 1000 % 100 = 0
  all_goals
    go_enter Tryz.func22, Tryz.ntmps22
    go_wp2_with fail
    go_ways
    rw [E1.out]
    refine (HI.out _ hT0).mono ?_
    rintro e w1 ⟨rfl, hb1⟩
    go_wp2_with fail
    rw [E2.out]
    have hT1 := hT0.below hb1 (Nat.le_refl _)
    refine (HP.out _ hT1).mono ?_
    rintro e w2 ⟨rfl, hb2⟩
    have hT2 := hT1.below hb2 (Nat.le_refl _)
    have hs0 := hb0.size
    have hs1 := hb1.size
    have hs2 := hb2.size
    have hB2 := Lib.hid (isB_below (isB_below HB0.out hb1) hb2)
    go_wp2_with fail
    refine (writeString_any w.heap.size w.heap.size [] _ w2 hB2.out (by simp [ByteArray.size]; omega) (by omega)).mono ?_
    rintro e w3 ⟨rfl, hB3, hb3⟩
    have hs3 := hb3.size
    have HB3 := Lib.hid hB3
    clear hB3
    have hT3 : Tabs w3 := by
      have HB := below_tr hb0 (below_tr hb1 hb2)
      exact HT.out.below (HB.trans hb3) (Nat.le_refl _)
    go_wp2_with fail
    try go_ways
  · rw [E4.out]
    refine (HJ.out _ hT3).mono ?_
    rintro e w4 ⟨rfl, hb4⟩
    have hs4 := hb4.size
    have hB4 := Lib.hid (bAt_below HB3.out hb4)
    go_wp2_with fail
    refine (writeString_any w.heap.size w.heap.size _ _ w4 (.inr hB4.out) (by simp [Lib.strCells_length, ByteArray.size]; omega) (by omega)).mono ?_
    rintro e w5 ⟨rfl, hB5, hb5⟩
    have hs5 := hb5.size
    have HB5 := Lib.hid hB5
    clear hB5
    go_wp2_with fail
    refine (Tryz.Builder_String_any w.heap.size w.heap.size (coreL m) w5 (.inr (by have := HB5.out; rw [HG.out, HF.out, HL.out, if_pos hz]; simpa [bytes_app, Lib.strCells_toArray, Lib.byteCells, Lib.strCells] using this)) (by omega)).mono ?_
    rintro e w6 ⟨rfl, hb6⟩
    go_wp2_with fail
    go_ret
    exact ⟨ret_eq (by rfl), (((below_tr hb0 (below_tr hb1 hb2)).trans hb3).trans (hb4.mono (by omega))).trans (hb5.trans hb6)⟩
  · refine (HQ.out _ hT3).mono ?_
    rintro e w4 ⟨rfl, hb4⟩
    have hs4 := hb4.size
    have hB4 := Lib.hid (bAt_below HB3.out hb4)
    go_wp2_with fail
    refine (writeString_any w.heap.size w.heap.size _ _ w4 (.inr hB4.out) (by simp [Lib.strCells_length, ByteArray.size]; omega) (by omega)).mono ?_
    rintro e w5 ⟨rfl, hB5, hb5⟩
    have hs5 := hb5.size
    have HB5 := Lib.hid hB5
    clear hB5
    go_wp2_with fail
    refine (Tryz.Builder_String_any w.heap.size w.heap.size (coreL m) w5 (.inr (by have := HB5.out; rw [HG.out, HF.out, HL.out, if_neg hz]; simpa [bytes_app, Lib.strCells_toArray, Lib.byteCells, Lib.strCells] using this)) (by omega)).mono ?_
    rintro e w6 ⟨rfl, hb6⟩
    go_wp2_with fail
    go_ret
    exact ⟨ret_eq (by rfl), (((below_tr hb0 (below_tr hb1 hb2)).trans hb3).trans (hb4.mono (by omega))).trans (hb5.trans hb6)⟩
set_option maxRecDepth 100000 in
set_option maxHeartbeats 2000000 in
theorem text_neg (m : Nat) (hm : 1 ≤ m) (h : m ≤ 1099511627776) (w : World) (ht : Tabs w) :
    Calls Tryz.prog 22 #[.int .i64 (-(m : Int))] w fun e w' => e = .returned (.string ⟨(45 :: coreL m).toArray⟩) ∧ Below w.heap.size w w' := by
  have hB := Lib.fresh_isBuilder 68 5 w
  have hT0 : Tabs (w.alloc (Obj.cells #[Value.pointer none, Value.slice none 0 0] 68)) := ht.alloc _
  have hb0 : Below w.heap.size w (w.alloc (Obj.cells #[Value.pointer none, Value.slice none 0 0] 68)) := below_alloc (Below.refl _ _) _
  have E1 : Hid ((m : Int) / 60000 = ((m / 60000 : Nat) : Int)) := by show _ = _; omega
  have E2 : Hid ((m : Int) % 60000 / 1000 = ((m % 60000 / 1000 : Nat) : Int)) := by show _ = _; omega
  have E3 : Hid ((m : Int) % 1000 = ((m % 1000 : Nat) : Int)) := by show _ = _; omega
  have E4 : Hid ((m : Int) % 1000 / 100 = ((m % 1000 / 100 : Nat) : Int)) := by show _ = _; omega
  have HI := Lib.hid (fun W hW => itoa_any ((m / 60000 : Nat) : Int) (by unfold I64; omega) W hW)
  have HJ := Lib.hid (fun W hW => itoa_any ((m % 1000 / 100 : Nat) : Int) (by unfold I64; omega) W hW)
  rw [itoa_nat] at HI HJ
  have HP := Lib.hid (fun W hW => padded_any (m % 60000 / 1000) 2 (by omega) (by omega) W hW)
  have HQ := Lib.hid (fun W hW => padded_any (m % 1000) 3 (by omega) (by omega) W hW)
  have HF := Lib.hid (show headL m = Lib.decDigits (m / 60000) ++ [45] ++ padL 2 (m % 60000 / 1000) ++ [46] from rfl)
  have HG := Lib.hid (show coreL m = _ from coreL_eq m)
  have HL := Lib.hid (show lastL m = if m % 1000 % 100 = 0 then Lib.decDigits (m % 1000 / 100) else padL 3 (m % 1000) from rfl)
  have ld := dec_le (m / 60000)
  have lj := dec_le (m % 1000 / 100)
  have lp := pad_len 2 (m % 60000 / 1000) (by omega) (by omega)
  have lq := pad_len 3 (m % 1000) (by omega) (by omega)
  generalize Lib.decDigits (m / 60000) = ls at *
  generalize padL 2 (m % 60000 / 1000) = ps at *
  generalize Lib.decDigits (m % 1000 / 100) = js at *
  generalize padL 3 (m % 1000) = qs at *
  have a1 := bytes_app ls [45]
  have n1 : ls.length + 1 ≤ 9223372036854775807 := by omega
  have a2 := bytes_app (ls ++ [45]) ps
  have n2 : ls.length + 1 + ps.length ≤ 9223372036854775807 := by omega
  have a3 := bytes_app (ls ++ [45] ++ ps) [46]
  have n3 : ls.length + 1 + ps.length + 1 ≤ 9223372036854775807 := by omega
  have HT := Lib.hid ht
  clear ht
  have HB0 := Lib.hid hB
  clear hB
  have hq : ((m : Int) % 100 == 0) = decide (m % 1000 % 100 = 0) := by
    by_cases q : m % 1000 % 100 = 0
    · rw [decide_eq_true q]; exact beq_iff_eq.2 (by omega)
    · rw [decide_eq_false q]; exact beq_eq_false_iff_ne.2 (by omega)
  by_cases hz : m % 1000 % 100 = 0
  all_goals
    go_enter Tryz.func22, Tryz.ntmps22
    go_wp2_with fail
    go_ways
    refine (writeByte_any w.heap.size w.heap.size [] 45 _ HB0.out (by simp) (by simp)).mono ?_
    rintro e w0 ⟨rfl, hB0, hb0'⟩
    have HB1 := Lib.hid hB0
    clear hB0
    have hb00 := hb0.trans hb0'
    have hs00 := hb00.size
    have hT00 : Tabs w0 := HT.out.below hb00 (Nat.le_refl _)
    go_wp2_with fail
    rw [E1.out]
    refine (HI.out _ hT00).mono ?_
    rintro e w1 ⟨rfl, hb1⟩
    go_wp2_with fail
    rw [E2.out]
    have hT1 := hT00.below hb1 (Nat.le_refl _)
    refine (HP.out _ hT1).mono ?_
    rintro e w2 ⟨rfl, hb2⟩
    have hT2 := hT1.below hb2 (Nat.le_refl _)
    have hs0 := hb0.size
    have hs1 := hb1.size
    have hs2 := hb2.size
    have hB2 := Lib.hid (bAt_below (bAt_below HB1.out hb1) hb2)
    go_wp2_with fail
    refine (writeString_any w.heap.size w.heap.size _ _ w2 (.inr hB2.out) (by simp [ByteArray.size]; omega) (by omega)).mono ?_
    rintro e w3 ⟨rfl, hB3, hb3⟩
    have hs3 := hb3.size
    have HB3 := Lib.hid hB3
    clear hB3
    have hT3 : Tabs w3 := by
      have HB := hb00.trans ((below_tr hb1 hb2).mono (by omega))
      exact HT.out.below (HB.trans hb3) (Nat.le_refl _)
    go_wp2_with fail
    try go_ways
  · rw [E4.out]
    refine (HJ.out _ hT3).mono ?_
    rintro e w4 ⟨rfl, hb4⟩
    have hs4 := hb4.size
    have hB4 := Lib.hid (bAt_below HB3.out hb4)
    go_wp2_with fail
    refine (writeString_any w.heap.size w.heap.size _ _ w4 (.inr hB4.out) (by simp [Lib.strCells_length, ByteArray.size]; omega) (by omega)).mono ?_
    rintro e w5 ⟨rfl, hB5, hb5⟩
    have hs5 := hb5.size
    have HB5 := Lib.hid hB5
    clear hB5
    go_wp2_with fail
    refine (Tryz.Builder_String_any w.heap.size w.heap.size (45 :: coreL m) w5 (.inr (by have := HB5.out; rw [HG.out, HF.out, HL.out, if_pos hz]; simpa [bytes_app, Lib.strCells_toArray, Lib.byteCells, Lib.strCells] using this)) (by omega)).mono ?_
    rintro e w6 ⟨rfl, hb6⟩
    go_wp2_with fail
    go_ret
    exact ⟨ret_eq (by rfl), (((hb00.trans ((below_tr hb1 hb2).mono (by omega))).trans hb3).trans (hb4.mono (by omega))).trans (hb5.trans hb6)⟩
  · refine (HQ.out _ hT3).mono ?_
    rintro e w4 ⟨rfl, hb4⟩
    have hs4 := hb4.size
    have hB4 := Lib.hid (bAt_below HB3.out hb4)
    go_wp2_with fail
    refine (writeString_any w.heap.size w.heap.size _ _ w4 (.inr hB4.out) (by simp [Lib.strCells_length, ByteArray.size]; omega) (by omega)).mono ?_
    rintro e w5 ⟨rfl, hB5, hb5⟩
    have hs5 := hb5.size
    have HB5 := Lib.hid hB5
    clear hB5
    go_wp2_with fail
    refine (Tryz.Builder_String_any w.heap.size w.heap.size (45 :: coreL m) w5 (.inr (by have := HB5.out; rw [HG.out, HF.out, HL.out, if_neg hz]; simpa [bytes_app, Lib.strCells_toArray, Lib.byteCells, Lib.strCells] using this)) (by omega)).mono ?_
    rintro e w6 ⟨rfl, hb6⟩
    go_wp2_with fail
    go_ret
    exact ⟨ret_eq (by rfl), (((hb00.trans ((below_tr hb1 hb2).mono (by omega))).trans hb3).trans (hb4.mono (by omega))).trans (hb5.trans hb6)⟩
end Go.Proofs.YtidhogcijghogaaGreatDoor
