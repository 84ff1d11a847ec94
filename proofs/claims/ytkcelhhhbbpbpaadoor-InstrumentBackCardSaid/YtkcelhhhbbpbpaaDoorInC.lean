/- Contracts: numbers, words, lines, entries of texts of instruments. -/
import Derived.Test.YtkcelhhhbbpbpaaDoorInV
import Derived.Test.YtkcelhhhbbpbpaaDoorTxL
namespace Go.Proofs.YtkcelhhhbbpbpaaDoor
open Go Go.Abs Go.RowKit
set_option linter.unusedVariables false
set_option linter.unusedSimpArgs false
theorem bF {c : Bool} {A B : Prop} (h : c = false) (hb : B) : bcase c A B := by rw [h, bcase_false]; exact hb
theorem bT {c : Bool} {A B : Prop} (h : c = true) (hb : A) : bcase c A B := by rw [h, bcase_true]; exact hb
def sufB (s q : ByteArray) : Bool := Lib.hasSuffix s.data.toList q.data.toList
def tsB (s q : ByteArray) : ByteArray := ⟨(Lib.trimSuffix s.data.toList q.data.toList).toArray⟩
theorem suf_drop (l r : List UInt8) : Lib.hasSuffix l r = (decide (r.length ≤ l.length) && (l.drop (l.length - r.length) == r)) := by
  rw [Bool.eq_iff_iff, Bool.and_eq_true, decide_eq_true_iff, beq_iff_eq]
  unfold Lib.hasSuffix
  rw [List.isSuffixOf_iff_suffix]
  constructor
  · intro h
    exact ⟨h.length_le, (List.suffix_iff_eq_drop.mp h).symm⟩
  · rintro ⟨-, h⟩
    exact List.suffix_iff_eq_drop.mpr h.symm
theorem parV_bd (s : ByteArray) : (parV s).natAbs ≤ 1099511627776 := rT_bd _ _ _
def nvP (s : ByteArray) : Int := if parE s = 0 then parV s else 0
def noP (s : ByteArray) : Bool := (numL s.data.toList).isSome
def ivP (s : ByteArray) : Int := (numL s.data.toList).getD 0
theorem numL_iff (s : ByteArray) : noP s = true ↔ parE s = 0 ∧ textL (parV s) = s.data.toList := by
  unfold noP numL parE parV
  split
  · rename_i h; exact ⟨fun _ => h, fun _ => rfl⟩
  · rename_i h; exact ⟨fun e => absurd e (by decide), fun e => absurd e h⟩
theorem numL_get {s : ByteArray} {n : Int} (h : numL s.data.toList = some n) : nvP s = n ∧ ivP s = n ∧ noP s = true := by
  have h' := h
  unfold numL at h'
  split at h'
  · rename_i c
    refine ⟨?_, by unfold ivP; rw [h]; rfl, by unfold noP; rw [h]; rfl⟩
    unfold nvP
    rw [if_pos (show parE s = 0 from c.1)]
    exact Option.some.inj h'
  · cases h'
def wdB (s w : ByteArray) : ByteArray := ⟨((pre (w.data.toList ++ [32]) s.data.toList).getD []).toArray⟩
def woB (s w : ByteArray) : Bool := (pre (w.data.toList ++ [32]) s.data.toList).isSome
theorem pre_iff {w l : List UInt8} (h : w.length < l.length) : (w ++ [32]).isPrefixOf l = true ↔ l.take w.length = w ∧ l[w.length] = 32 := by
  rw [List.isPrefixOf_iff_prefix]
  constructor
  · rintro ⟨t, rfl⟩
    refine ⟨by rw [List.append_assoc, List.take_left], ?_⟩
    simp
  · rintro ⟨h1, h2⟩
    refine ⟨l.drop (w.length + 1), ?_⟩
    rw [List.append_assoc]
    conv => rhs; rw [← List.take_append_drop w.length l, h1]
    congr 1
    rw [← List.getElem_cons_drop h, h2]
    rfl
section
variable {Φ : World → Prop} (hst : ∀ w w', Φ w → Below w.heap.size w w' → Φ w')
include hst
theorem c_cutSuffix (s q : ByteArray) (h : SL s) (hq : q.size ≤ 4000) : Ans Tryd.prog Φ 35 [.string s, .string q] (.tuple #[.string (tsB s q), .bool (sufB s q)]) := by
  refine fn_by hst Sound.nil (vc_cutSuffix s q _) ?_
  unfold SL at h
  have s1 := Lib.size_eq s
  have s2 := Lib.size_eq q
  unfold tsB sufB Lib.trimSuffix
  rw [suf_drop]
  refine bcase_iff.mpr ⟨fun c => ?_, fun c => ?_⟩
  · have c := of_decide_eq_true c
    rw [decide_eq_true (show q.data.toList.length ≤ s.data.toList.length by omega), Bool.true_and]
    have w : IntKind.i64.wrap ((s.size : Int) - (q.size : Int)) = ((s.data.toList.length - q.data.toList.length : Nat) : Int) := by rw [wrap_in (by omega)]; omega
    rw [w]
    refine bT (by rw [decide_eq_true (by omega), decide_eq_true (by omega), decide_eq_true (by omega)]; rfl) ?_
    have e1 : (s.extract ((s.data.toList.length - q.data.toList.length : Nat) : Int).toNat (s.size : Int).toNat).toList = s.data.toList.drop (s.data.toList.length - q.data.toList.length) := by
      rw [ByteArray.toList_eq, ex_list, Int.toNat_natCast, Int.toNat_natCast, s1, List.take_length]
    rw [e1, ByteArray.toList_eq]
    have e2 : ∀ k, s.extract 0 k = ⟨(s.data.toList.take k).toArray⟩ := fun k => ext_list (by rw [ex_list]; rfl)
    cases hb : s.data.toList.drop (s.data.toList.length - q.data.toList.length) == q.data.toList with
    | true =>
      refine bF rfl (bT (by rw [decide_eq_true (by omega), decide_eq_true (by omega), decide_eq_true (by omega)]; rfl) ?_)
      rw [e2]; rfl
    | false => exact bT rfl rfl
  · have c := of_decide_eq_false c
    rw [decide_eq_false (show ¬ q.data.toList.length ≤ s.data.toList.length by omega)]
    rfl
theorem c_word (s w : ByteArray) (h : WdOk s w) : Ans Tryd.prog Φ 23 [.string s, .string w] (.tuple #[.string (wdB s w), .bool (woB s w)]) := by
  obtain ⟨h1, h2⟩ := h
  unfold SL at h1
  refine fn_by hst Sound.nil (vc_word s w _) ?_
  have s1 := Lib.size_eq s
  have s2 := Lib.size_eq w
  have no : (w.data.toList ++ [32]).isPrefixOf s.data.toList = false → Value.tuple #[.string (ByteArray.mk #[]), .bool false] = Value.tuple #[.string (wdB s w), .bool (woB s w)] := fun q => by
    unfold wdB woB pre
    rw [q]
    rfl
  refine bcase_iff.mpr ⟨fun q => no ?_, fun q => ?_⟩
  · have q := of_decide_eq_true q
    rw [← Bool.not_eq_true, List.isPrefixOf_iff_prefix]
    intro hp
    have := hp.length_le
    rw [List.length_append, List.length_singleton] at this
    omega
  · have q := of_decide_eq_false q
    have hlt : w.data.toList.length < s.data.toList.length := by omega
    refine bT (by rw [decide_eq_true (by omega), decide_eq_true (by omega), decide_eq_true (by omega)]; rfl) ?_
    have e1 : (s.extract 0 (w.size : Int).toNat).toList = s.data.toList.take w.data.toList.length := by
      rw [ByteArray.toList_eq, ex_list, Int.toNat_natCast, s2]; rfl
    have e2 : s.get! (w.size : Int).toNat = s.data.toList[w.data.toList.length] := by
      rw [Int.toNat_natCast, s2, get_list hlt]
    rw [e1, ByteArray.toList_eq]
    refine bcase_iff.mpr ⟨fun c => no ?_, fun c => bT (inY (by omega) (by omega)) ?_⟩
    · have c : ¬ s.data.toList.take w.data.toList.length = w.data.toList := by simpa using c
      rw [← Bool.not_eq_true, pre_iff hlt]
      exact fun h => c h.1
    · have c : s.data.toList.take w.data.toList.length = w.data.toList := by simpa using c
      rw [e2]
      refine bcase_iff.mpr ⟨fun d => no ?_, fun d => bT (by rw [wrap_in (by omega), decide_eq_true (by omega), decide_eq_true (by omega), decide_eq_true (by omega)]; rfl) ?_⟩
      · rw [← Bool.not_eq_true, pre_iff hlt]
        rintro ⟨-, e⟩
        rw [e] at d
        revert d; decide
      · have d : s.data.toList[w.data.toList.length] = 32 := by
          have : ((s.data.toList[w.data.toList.length]).toNat : Int) = 32 := by simpa using d
          exact UInt8.toNat_inj.mp (by show _ = 32; omega)
        have hp := (pre_iff hlt).mpr ⟨c, d⟩
        unfold wdB woB pre
        rw [if_pos hp, wrap_in (by omega)]
        have e3 : s.extract ((w.size : Int) + 1).toNat (s.size : Int).toNat = ⟨(s.data.toList.drop (w.data.toList ++ [32]).length).toArray⟩ := ext_list (by
          rw [ex_list, Int.toNat_natCast, s1, List.take_length, List.length_append, List.length_singleton, show ((w.size : Int) + 1).toNat = w.data.toList.length + 1 by omega])
        rw [e3]
        rfl
theorem c_rfLine (s : ByteArray) (h : SL s) (a : Nat) (ha : a ≤ s.size) : Ans Tryd.prog Φ 22 [.string s, .int .i64 (a : Int)] (.tuple #[.string (if 10 ∈ s.data.toList.drop a then ⟨(lnH (s.data.toList.drop a)).toArray⟩ else ⟨#[]⟩), .bool (decide (10 ∈ s.data.toList.drop a))]) := by
  refine fn_by hst Sound.nil (vc_rfLine s a (s.data.toList.drop a) _) ?_
  unfold SL at h
  have sz := Lib.size_eq s
  have dl : (s.data.toList.drop a).length = s.data.toList.length - a := List.length_drop
  refine ⟨0, ⟨rfl, rfl, rfl, trivial⟩, ⟨Nat.zero_le _, by simp⟩, fun i ⟨hi, hno⟩ => ?_⟩
  have ge : ∀ (q : i < (s.data.toList.drop a).length), s.get! ((a + i : Nat) : Int).toNat = (s.data.toList.drop a)[i] := fun q => by
    rw [Int.toNat_natCast, get_list (by omega), List.getElem_drop]
  have e1 : s.extract (a : Int).toNat ((a + i : Nat) : Int).toNat = ⟨((s.data.toList.drop a).take i).toArray⟩ := ext_list (by
    rw [ex_list, Int.toNat_natCast, Int.toNat_natCast]
    show _ = (s.data.toList.drop a).take i
    rw [List.drop_take, Nat.add_sub_cancel_left])
  generalize s.data.toList.drop a = l at *
  refine bcase_iff.mpr ⟨fun q => ?_, fun q => ?_⟩
  · have q := of_decide_eq_true q
    have q : i < l.length := by omega
    rw [inY (by omega) (by omega), bcase_true, ge q]
    refine bcase_iff.mpr ⟨fun c => bT (by rw [decide_eq_true (by omega), decide_eq_true (by omega), decide_eq_true (by omega)]; rfl) ?_, fun c => ?_⟩
    · have c : l[i] = 10 := by
        have : ((l[i]).toNat : Int) = 10 := eq_of_beq c
        exact UInt8.toNat_inj.mp (by show _ = 10; omega)
      have sp : l = l.take i ++ 10 :: l.drop (i + 1) := by rw [← c, List.getElem_cons_drop, List.take_append_drop]
      have w := while_at (c := 10) (a := l.take i) (l.drop (i + 1)) hno
      rw [← sp] at w
      have mem : 10 ∈ l := by rw [sp]; simp
      rw [if_pos mem, decide_eq_true mem, e1]
      unfold lnH
      rw [w.1]
    · refine ⟨i + 1, ⟨rfl, rfl, by rw [wrap_in (by omega)]; omega, trivial⟩, ⟨by omega, ?_⟩, by omega⟩
      rw [← List.take_append_getElem q]
      intro hm
      rcases List.mem_append.mp hm with hm | hm
      · exact hno hm
      · rw [← List.mem_singleton.mp hm] at c
        revert c; decide
  · have q := of_decide_eq_false q
    have e : i = l.length := by omega
    rw [e, List.take_length] at hno
    rw [if_neg hno, decide_eq_false hno]
end
theorem okText_fit {n : Int} (h : n.natAbs ≤ 1099511627776) : okText n = textB n ∧ pick (Fit n) 0 5 = 0 := by
  have f : Fit n := by unfold Fit; omega
  unfold okText
  rw [if_pos f, pick_yes f]
  exact ⟨rfl, rfl⟩
theorem c_number (s : ByteArray) (h : SL s) : Ans Tryd.prog VT 37 [.string s] (.tuple #[.int .i64 (nvP s), .bool (noP s)]) := by
  refine fn_by st_vt (Sound.cons (by kernel_rfl) (fun args p v h hp => by unfold ΓNm.sParI at h; split at h <;> cases h; exact c_parse5 st_vt (fun _ h => h.1) _ hp)
    (Sound.cons (by kernel_rfl) (fun args p v h hp => by split at h <;> cases h; exact up_vt (c_text _)) Sound.nil)) (vc_number s parV parE okText (fun n => pick (Fit n) 0 5) _) ?_
  obtain ⟨e1, e2⟩ := okText_fit (parV_bd s)
  rw [e1, e2]
  refine ⟨h, bcase_iff.mpr ⟨fun q => ?_, fun q => ⟨trivial, bT rfl ?_⟩⟩⟩
  · have q : parE s ≠ 0 := by simpa using q
    have : noP s = false := by rw [← Bool.not_eq_true, numL_iff]; exact fun h => q h.1
    unfold nvP
    rw [this, if_neg q]
  · have q : parE s = 0 := by simpa using q
    have : ((textB (parV s)).toList == s.toList) = noP s := by
      rw [ByteArray.toList_eq, ByteArray.toList_eq, Bool.eq_iff_iff, beq_iff_eq, numL_iff]
      exact ⟨fun h => ⟨q, h⟩, fun h => h.2⟩
    unfold nvP
    rw [this, if_pos q]
theorem c_integer (s : ByteArray) (h : SL s) : Ans Tryd.prog VT 24 [.string s] (.tuple #[.int .i64 (ivP s), .bool (noP s)]) := by
  refine fn_by st_vt (Sound.cons (by kernel_rfl) (fun args p v h hp => by unfold ΓNm.sParI at h; split at h <;> cases h; exact c_r5parse st_vt _ hp)
    (Sound.cons (by kernel_rfl) (fun args p v h hp => by split at h <;> cases h; exact c_r5text st_vt _ hp) Sound.nil)) (vc_integer s parV parE textB _) ?_
  have no : noP s = false → Value.tuple #[.int .i64 0, .bool false] = Value.tuple #[.int .i64 (ivP s), .bool (noP s)] := fun q => by
    rw [q]
    unfold noP at q
    unfold ivP
    cases hn : numL s.data.toList with
    | none => rfl
    | some n => rw [hn] at q; cases q
  refine ⟨h, bcase_iff.mpr ⟨fun q => no ?_, fun q => ⟨by have := parV_bd s; unfold Fit; omega, bcase_iff.mpr ⟨fun c => no ?_, fun c => ?_⟩⟩⟩⟩
  · have q : parE s ≠ 0 := by simpa using q
    rw [← Bool.not_eq_true, numL_iff]; exact fun h => q h.1
  · rw [← Bool.not_eq_true, numL_iff]
    rintro ⟨-, e⟩
    rw [ByteArray.toList_eq, ByteArray.toList_eq] at c
    have : (textB (parV s)).data.toList = s.data.toList := e
    rw [this] at c
    simp at c
  · have q : parE s = 0 := by simpa using q
    have c : (textB (parV s)).toList = s.toList := by simpa using c
    rw [ByteArray.toList_eq, ByteArray.toList_eq] at c
    have hn : numL s.data.toList = some (parV s) := by
      unfold numL
      rw [if_pos ⟨q, c⟩]
      rfl
    obtain ⟨-, g2, g3⟩ := numL_get hn
    rw [g2, g3]
/-- An entry, as the reference reads it. -/
def entR (l : List UInt8) : Int × Int := match pre errW l with
  | some y => if 32 ∈ y then ((numL (y.takeWhile (· != 32))).getD 0, (numL ((y.dropWhile (· != 32)).drop 1)).getD 0) else (0, 0)
  | none => (0, 0)
theorem ent_get {l : List UInt8} {e : Int × Int} (h : entL l = some e) : entR l = e := by
  unfold entL at h
  obtain ⟨y, h1, h2⟩ := Option.bind_eq_some_iff.mp h
  unfold two2 at h2
  split at h2
  · rename_i c
    obtain ⟨a, h3, h4⟩ := Option.bind_eq_some_iff.mp h2
    obtain ⟨b, h5, h6⟩ := Option.bind_eq_some_iff.mp h4
    cases h6
    unfold entR
    rw [h1]
    dsimp only
    rw [if_pos c, h3, h5]
    rfl
  · cases h2
theorem c_entry (s : ByteArray) (h : SL s) : Ans Tryd.prog VT 25 [.string s] (.tuple #[.agg #[.int .i64 (entR s.data.toList).1, .int .i64 (entR s.data.toList).2], .bool (entL s.data.toList).isSome]) := by
  generalize hy : (wdB s (ByteArray.mk #[101, 114, 114, 111, 114])) = y
  refine fn_by st_vt (Sound.cons (by kernel_rfl) (fun args p v h hp => by split at h <;> cases h; exact c_word st_vt _ _ hp)
    (Sound.cons (by kernel_rfl) (fun args p v h hp => by split at h <;> cases h; exact c_integer _ hp) Sound.nil)) (vc_entry s y.data.toList wdB woB ivP noP _) ?_
  rw [hy]
  have hp : (ByteArray.mk #[101, 114, 114, 111, 114]).data.toList ++ [32] = errW := rfl
  have hw : woB s (ByteArray.mk #[101, 114, 114, 111, 114]) = (pre errW s.data.toList).isSome := by unfold woB; rw [hp]
  have hz : y.data.toList = (pre errW s.data.toList).getD [] := by rw [← hy]; unfold wdB; rw [hp]
  have sy := Lib.size_eq y
  have h' := h
  unfold SL at h'
  have ly : y.data.toList.length ≤ 4000 := by
    rw [hz]
    unfold pre
    split
    · rw [Option.getD_some, List.length_drop]; omega
    · exact Nat.zero_le _
  rw [hw]
  refine ⟨⟨h, by decide⟩, ?_⟩
  unfold entL entR
  cases hpre : pre errW s.data.toList with
  | none => exact bT rfl rfl
  | some z =>
    rw [hpre, Option.getD_some] at hz
    subst hz
    refine bF rfl ⟨0, ⟨rfl, rfl, rfl, rfl, trivial⟩, ⟨Nat.zero_le _, by simp⟩, fun i ⟨hi, hno⟩ => ?_⟩
    show bcase _ _ _
    dsimp only [Option.bind]
    have ge : ∀ (q : i < y.data.toList.length), y.get! (i : Int).toNat = y.data.toList[i] := fun q => by rw [Int.toNat_natCast, get_list q]
    have e1 : y.extract 0 (i : Int).toNat = ⟨(y.data.toList.take i).toArray⟩ := ext_list (by rw [ex_list, Int.toNat_natCast]; rfl)
    have e1' : y.extract (Int.toNat 0) (i : Int).toNat = ⟨(y.data.toList.take i).toArray⟩ := e1
    have e2 : IntKind.i64.wrap ((i : Int) + 1) = ((i + 1 : Nat) : Int) := by rw [wrap_in (by omega)]; rfl
    have e3 : y.extract ((i + 1 : Nat) : Int).toNat (y.size : Int).toNat = ⟨(y.data.toList.drop (i + 1)).toArray⟩ := ext_list (by rw [ex_list, Int.toNat_natCast, Int.toNat_natCast, sy, List.take_length])
    rw [e2, e1, e1', e3]
    generalize y.data.toList = l at *
    refine bcase_iff.mpr ⟨fun q => ?_, fun q => ?_⟩
    · have q := of_decide_eq_true q
      have q : i < l.length := by omega
      rw [inY (by omega) (by omega), bcase_true, ge q]
      refine bcase_iff.mpr ⟨fun c => ?_, fun c => ?_⟩
      · have c : l[i] = 32 := by
          have : ((l[i]).toNat : Int) = 32 := eq_of_beq c
          exact UInt8.toNat_inj.mp (by show _ = 32; omega)
        have sp : l = l.take i ++ 32 :: l.drop (i + 1) := by rw [← c, List.getElem_cons_drop, List.take_append_drop]
        have w := while_at (c := 32) (a := l.take i) (l.drop (i + 1)) hno
        rw [← sp] at w
        have mem : 32 ∈ l := by rw [sp]; simp
        unfold two2
        rw [if_pos mem, if_pos mem, w.1, w.2]
        have s1 : SL ⟨(l.take i).toArray⟩ := by show (l.take i).length ≤ 4000; rw [List.length_take]; omega
        have s2 : SL ⟨(l.drop (i + 1)).toArray⟩ := by show (l.drop (i + 1)).length ≤ 4000; rw [List.length_drop]; omega
        have a1 : ivP ⟨(l.take i).toArray⟩ = (numL (l.take i)).getD 0 := rfl
        have a2 : ivP ⟨(l.drop (i + 1)).toArray⟩ = (numL (l.drop (i + 1))).getD 0 := rfl
        have a3 : noP ⟨(l.take i).toArray⟩ = (numL (l.take i)).isSome := rfl
        have a4 : noP ⟨(l.drop (i + 1)).toArray⟩ = (numL (l.drop (i + 1))).isSome := rfl
        rw [a1, a2, a3, a4]
        refine bT (by rw [decide_eq_true (by omega), decide_eq_true (by omega), decide_eq_true (by omega)]; rfl) ⟨s1, bT (by rw [decide_eq_true (by omega), decide_eq_true (by omega), decide_eq_true (by omega)]; rfl) ⟨s2, ?_⟩⟩
        cases numL (l.take i) with
        | none => exact bF rfl rfl
        | some a =>
          refine bT rfl ?_
          cases numL (l.drop (i + 1)) with
          | none => rfl
          | some b => rfl
      · refine ⟨i + 1, ⟨rfl, rfl, rfl, rfl, trivial⟩, ⟨by omega, ?_⟩, by omega⟩
        rw [← List.take_append_getElem q]
        intro hm
        rcases List.mem_append.mp hm with hm | hm
        · exact hno hm
        · rw [← List.mem_singleton.mp hm] at c
          revert c; decide
    · have q := of_decide_eq_false q
      have e : i = l.length := by omega
      rw [e, List.take_length] at hno
      unfold two2
      rw [if_neg hno, if_neg hno]
      rfl
end Go.Proofs.YtkcelhhhbbpbpaaDoor
