/- The law of tokens that are read again: the tree closed. -/
import Derived.Test.YtobmbbmompoliaaDoorJnL
namespace Go.Proofs.YtobmbbmompoliaaDoor
open Go Go.Abs Go.RowKit
set_option linter.unusedVariables false
set_option linter.unusedSimpArgs false
theorem kt_get {L M : List Tok} (h : M.map ktT = L.map ktT) {j : Nat} (hj : j < L.length) (d : Tok) : (L.getD j d).1 = (M.getD j d).1 ∧ (L.getD j d).2.1 = (M.getD j d).2.1 := by
  have hl := congrArg List.length h
  rw [List.length_map, List.length_map] at hl
  have e : (M.map ktT)[j]? = (L.map ktT)[j]? := by rw [h]
  rw [List.getElem?_map, List.getElem?_map, List.getElem?_eq_getElem hj, List.getElem?_eq_getElem (by omega)] at e
  rw [List.getD_eq_getElem?_getD, List.getD_eq_getElem?_getD, List.getElem?_eq_getElem hj, List.getElem?_eq_getElem (by omega)]
  have e := Option.some.inj e
  exact ⟨(congrArg Prod.fst e).symm, (congrArg Prod.snd e).symm⟩
theorem blt_nat {i n : Nat} (h : i < n) : (i : Int).toNat.blt n = true := by rw [Int.toNat_natCast]; exact Nat.ble_eq_true_of_le h
theorem wr1 {i : Nat} (h : i ≤ 5000) : IntKind.i64.wrap ((i : Int) + 1) = ((i + 1 : Nat) : Int) := by rw [wrap_in (by omega)]; omega
structure LOk (S : List ByteArray) (L : List Tok) (out : List Tok) (line col : Int) : Prop where
  eq : L = out ++ [(5, ⟨#[]⟩, line, col)]
  kin : ∀ t ∈ out, Kin t
  at' : ∀ t ∈ L, AtS S t
  len : (jnL out).length ≤ 800
theorem LOk.jn {S L out line col} (h : LOk S L out line col) : jnL L = jnL out ++ [32] := by
  rw [h.eq, jn_app]
  rfl
theorem LOk.jlen {S L out line col} (h : LOk S L out line col) : (jnL L).length ≤ 801 := by
  rw [h.jn, List.length_append]
  have := h.len
  simp
  exact this
theorem LOk.mem {S L out line col} (h : LOk S L out line col) {i : Nat} (hi : i < L.length) (d : Tok) : L.getD i d ∈ L := by
  rw [List.getD_eq_getElem?_getD, List.getElem?_eq_getElem hi]
  exact List.getElem_mem _
theorem LOk.size {S L out line col} (h : LOk S L out line col) {i : Nat} (hi : i < L.length) (d : Tok) : (jnT (L.getD i d)).length ≤ 801 := by
  have h1 := jn_take hi d
  have h2 := jn_le (L := L) (i + 1)
  have h3 := h.jlen
  rw [h1, List.length_append] at h2
  omega
theorem LOk.llen {S L out line col} (h : LOk S L out line col) : L.length ≤ 801 := by
  have key : ∀ l : List Tok, (∀ t ∈ l, Kin t) → l.length ≤ (jnL l).length := by
    intro l
    induction l with
    | nil => intro _; exact Nat.zero_le _
    | cons t l ih =>
      intro hk
      have i1 := ih fun t ht => hk t (List.mem_cons_of_mem _ ht)
      have : jnL (t :: l) = jnT t ++ jnL l := rfl
      rw [this, List.length_append, List.length_cons]
      have : 1 ≤ (jnT t).length := by
        unfold jnT
        split
        · exact Nat.le_refl _
        · simp
      omega
  have := key out h.kin
  have := h.len
  rw [h.eq, List.length_append]
  show out.length + 1 ≤ 801
  omega
theorem jnT_4 {t : Tok} (h : t.1 = 4) : jnT t = [10] := if_pos h
theorem jnT_n {t : Tok} (h : ¬ t.1 = 4) : jnT t = t.2.1.data.toList ++ [32] := if_neg h
theorem nlV : [((10 : Nat) : Int)] = uI [10] := rfl
/-- A round behind the first. -/
theorem rd_next {S L out line col} (h : LOk S L out line col) {i : Nat} {xs : List Int} (j : JnI L i xs) (hi : i < L.length) (d : Tok) {VF : Prop} (E : List Int → Nat → List Int → Prop) (hE : ∀ ys : List Int, E ys ys.length ys) :
    bcase ((L.getD (i : Int).toNat d).1 == 4)
      (xs.length = xs.length ∧ bcase (capOk (xs.length + 1) 1) (1 ≠ 0 ∧ bcase (decide (((xs.length + 1 : Nat) : Int) > 2000)) VF (∃ ys : List Int, E ys (xs.length + 1) (xs ++ [((10 : Nat) : Int)]) ∧ JnI L ((i : Int).toNat + 1) ys)) False)
      (bcase (tooLong (L.getD (i : Int).toNat d).2.1 ⟨#[32]⟩) False
        (xs.length = xs.length ∧ bcase (capOk (xs.length + ((L.getD (i : Int).toNat d).2.1 ++ ⟨#[32]⟩ : ByteArray).size) 1)
          (((L.getD (i : Int).toNat d).2.1 ++ ⟨#[32]⟩ : ByteArray).size ≠ 0 ∧ bcase (decide (((xs.length + ((L.getD (i : Int).toNat d).2.1 ++ ⟨#[32]⟩ : ByteArray).size : Nat) : Int) > 2000)) VF
            (∃ ys : List Int, E ys (xs.length + ((L.getD (i : Int).toNat d).2.1 ++ ⟨#[32]⟩ : ByteArray).size) (xs ++ bytesV ((L.getD (i : Int).toNat d).2.1 ++ ⟨#[32]⟩)) ∧ JnI L ((i : Int).toNat + 1) ys)) False)) := by
  rw [Int.toNat_natCast]
  have hx : xs = uI (jnL (L.take i)) := j.xs
  have hl : xs.length ≤ 801 := by
    rw [hx, uI_len]
    have := jn_le (L := L) i
    have := h.jlen
    omega
  have hz := h.size hi d
  have nx := @jni_next L i xs hi d hx
  generalize L.getD i d = t at *
  refine bcase_iff.mpr ⟨fun q => ?_, fun q => ?_⟩
  · have q : t.1 = 4 := by simpa using q
    rw [jnT_4 q] at nx
    rw [cap1 (by omega), bcase_true, show decide (((xs.length + 1 : Nat) : Int) > 2000) = false from decide_eq_false (by omega), bcase_false]
    refine ⟨rfl, by decide, _, ?_, nx rfl⟩
    have := hE (xs ++ [((10 : Nat) : Int)])
    rw [List.length_append] at this
    exact this
  · have q : ¬ t.1 = 4 := by simpa using q
    rw [jnT_n q] at nx hz
    rw [List.length_append] at hz
    have hz : t.2.1.data.toList.length + 1 ≤ 801 := hz
    have ts : t.2.1.size = t.2.1.data.toList.length := (Array.length_toList (xs := t.2.1.data)).symm
    rw [short_no _ (by omega), bcase_false, bytes_32]
    have hE := hE (xs ++ uI (t.2.1.data.toList ++ [32]))
    rw [List.length_append, uI_len, List.length_append] at hE
    have hE : E (xs ++ uI (t.2.1.data.toList ++ [32])) (xs.length + (t.2.1.data.toList.length + 1)) (xs ++ uI (t.2.1.data.toList ++ [32])) := hE
    have s32 := size_32 t.2.1
    rw [s32, cap1 (by omega), bcase_true, show decide (((xs.length + (t.2.1.data.toList.length + 1) : Nat) : Int) > 2000) = false from decide_eq_false (by omega), bcase_false]
    exact ⟨rfl, by omega, _, hE, nx rfl⟩
/-- The first round. -/
theorem rd_first {S L out line col} (h : LOk S L out line col) (hi : 0 < L.length) (d : Tok) {VF : Prop} (E : List Int → Nat → List Int → Prop) (hE : ∀ ys : List Int, E ys ys.length ys) :
    bcase ((L.getD 0 d).1 == 4)
      (1 ≠ 0 ∧ ∃ ys : List Int, E ys 1 [((10 : Nat) : Int)] ∧ JnI L (Int.toNat 0 + 1) ys)
      (bcase (tooLong (L.getD 0 d).2.1 ⟨#[32]⟩) False
        (bcase (capOk (0 + ((L.getD 0 d).2.1 ++ ⟨#[32]⟩ : ByteArray).size) 1)
          (((L.getD 0 d).2.1 ++ ⟨#[32]⟩ : ByteArray).size ≠ 0 ∧ bcase (decide (((0 + ((L.getD 0 d).2.1 ++ ⟨#[32]⟩ : ByteArray).size : Nat) : Int) > 2000)) VF
            (∃ ys : List Int, E ys (0 + ((L.getD 0 d).2.1 ++ ⟨#[32]⟩ : ByteArray).size) ([] ++ bytesV ((L.getD 0 d).2.1 ++ ⟨#[32]⟩)) ∧ JnI L (Int.toNat 0 + 1) ys)) False)) := by
  have hz := h.size hi d
  have nx := @jni_next L 0 [] hi d rfl
  generalize L.getD 0 d = t at *
  refine bcase_iff.mpr ⟨fun q => ?_, fun q => ?_⟩
  · have q : t.1 = 4 := by simpa using q
    rw [jnT_4 q] at nx
    exact ⟨by decide, _, hE [((10 : Nat) : Int)], nx rfl⟩
  · have q : ¬ t.1 = 4 := by simpa using q
    rw [jnT_n q] at nx hz
    rw [List.length_append] at hz
    have hz : t.2.1.data.toList.length + 1 ≤ 801 := hz
    have ts : t.2.1.size = t.2.1.data.toList.length := (Array.length_toList (xs := t.2.1.data)).symm
    rw [short_no _ (by omega), bcase_false, bytes_32]
    have hE := hE (uI (t.2.1.data.toList ++ [32]))
    rw [uI_len, List.length_append] at hE
    have hE : E (uI (t.2.1.data.toList ++ [32])) (t.2.1.data.toList.length + 1) (uI (t.2.1.data.toList ++ [32])) := hE
    have s32 := size_32 t.2.1
    rw [s32, Nat.zero_add, cap1 (by omega), bcase_true, show decide (((t.2.1.data.toList.length + 1 : Nat) : Int) > 2000) = false from decide_eq_false (by omega), bcase_false, List.nil_append]
    exact ⟨by omega, _, hE, nx rfl⟩
theorem law_joinsR (s : ByteArray) : RAns Tryd.prog Vs 3 [oneV (.string s)] [oneV (.bool true)] := by
  refine rfn_by st_vs s_Jn (vc_joins s _ _ _ _ _ _ _) ⟨trivial, ?_⟩
  refine bcase_iff.mpr ⟨fun _ => ⟨rfl, trivial⟩, fun q => ⟨trivial, ?_⟩⟩
  have hs : s.size ≤ 400 := by have := of_decide_eq_false q; omega
  rcases joins_plain hs with ⟨e1, e2⟩ | ⟨e1, out, line, col, e2, hk, hat, hlen⟩
  · rw [show (tokErr s != 0) = true by simp [e1], bcase_true, e2]
    exact ⟨rfl, trivial⟩
  rw [e1]
  have h : LOk (splB s ⟨#[10]⟩) (tokL s) out line col := ⟨e2, hk, fun t ht => at_s hs (hat t ht), hlen⟩
  obtain ⟨re, rm⟩ := joins_read hk hlen
  generalize tokL s = L at *
  generalize splB s ⟨#[10]⟩ = S at *
  generalize tokLine s = tn at *
  generalize tokCol s = tc at *
  have hll := h.llen
  have l0 : 0 < L.length := by rw [e2, List.length_append]; exact Nat.succ_pos _
  have wl : IntKind.i64.wrap ((L.length : Int) - 1) = ((L.length - 1 : Nat) : Int) := by rw [wrap_in (by omega)]; omega
  have last : L.getD (L.length - 1) (0, ⟨#[]⟩, 0, 0) = (5, ⟨#[]⟩, line, col) := by
    rw [List.getD_eq_getElem?_getD]
    have : L.length - 1 = out.length := by rw [e2, List.length_append]; rfl
    rw [this, e2, List.getElem?_append_right (Nat.le_refl _), Nat.sub_self]
    rfl
  rw [show ((0 : Int) != 0) = false from rfl, bcase_false, show ((L.length : Int) == 0) = false from beq_eq_false_iff_ne.mpr (by omega), bcase_false, wl, inB_nat (show L.length - 1 < L.length by omega), bcase_true, blt_nat (show L.length - 1 < L.length by omega), bcase_true, Int.toNat_natCast, last, show (((5 : Int), (⟨#[]⟩ : ByteArray), line, col).1 != 5) = false from rfl, bcase_false]
  refine ⟨⟨by omega, Nat.le_refl _⟩, ?_, ?_⟩
  · intro xs hj
    have hx : xs = uI (jnL out ++ [32]) := by
      have := hj.xs
      rw [List.take_length, h.jn] at this
      exact this
    have hb : boI (asI (Row.mk (ET.int IntKind.u8) xs true).t (Row.mk (ET.int IntKind.u8) xs true).xs) = ⟨(jnL out ++ [32]).toArray⟩ := by
      rw [hx]
      exact bo_list _
    refine ⟨rfl, ⟨fun e => ?_, _, hx⟩, trivial, ?_⟩
    · have e : xs = [] := e
      rw [hx] at e
      have := congrArg List.length e
      rw [uI_len, List.length_append] at this
      simp at this
    rw [hb]
    generalize (⟨(jnL out ++ [32]).toArray⟩ : ByteArray) = u at *
    have hm : (tokL u).map ktT = L.map ktT := by rw [rm, e2, List.map_append]; rfl
    generalize tokL u = M at *
    generalize tokLine u = un at *
    generalize tokCol u = uc at *
    have ml : M.length = L.length := by
      have := congrArg List.length hm
      rw [List.length_map, List.length_map] at this
      exact this
    rw [re, show ((0 : Int) != 0) = false from rfl, bcase_false, ml, show ((L.length : Int) != (L.length : Int)) = false by simp, bcase_false]
    refine ⟨0, ⟨rfl, rfl, rfl, rfl, rfl, rfl, rfl, rfl, rfl, rfl, rfl, rfl, rfl, trivial⟩, ⟨Nat.zero_le _⟩, fun j hj => ?_⟩
    refine bcase_iff.mpr ⟨fun q => ?_, fun _ => ⟨rfl, trivial⟩⟩
    have q : j < L.length := by have := of_decide_eq_true q; omega
    obtain ⟨g1, g2⟩ := kt_get hm q (0, ⟨#[]⟩, 0, 0)
    have g1' : ((L.getD (j : Int).toNat (0, ⟨#[]⟩, 0, 0)).1 != (M.getD (j : Int).toNat (0, ⟨#[]⟩, 0, 0)).1) = false := by rw [Int.toNat_natCast, g1]; simp
    have g2' : (!ByteArray.toList (L.getD (j : Int).toNat (0, ⟨#[]⟩, 0, 0)).2.1 == ByteArray.toList (M.getD (j : Int).toNat (0, ⟨#[]⟩, 0, 0)).2.1) = false := by rw [Int.toNat_natCast, g2]; simp
    have b1 := inB_nat q
    have b2 := blt_nat q
    rw [b1, bcase_true, b2, bcase_true, bcase_true, bcase_true, g1', bcase_false, bcase_true, bcase_true, bcase_true, bcase_true, g2', bcase_false]
    exact ⟨j + 1, ⟨rfl, rfl, rfl, rfl, wr1 (by omega), rfl, rfl, rfl, rfl, rfl, rfl, rfl, rfl, trivial⟩, ⟨q⟩, by omega⟩
  · refine bcase_iff.mpr ⟨fun _ => ⟨?_, ?_⟩, fun q => absurd (of_decide_eq_false q) (by omega)⟩
    · intro x1 hj1
      refine ⟨(1, x1), ⟨rfl, rfl, rfl, rfl, rfl, wr1 (i := 0) (by omega), rfl, rfl, rfl, rfl, rfl, rfl, trivial⟩, hj1, ?_⟩
      rintro ⟨i, xs⟩ hj
      have hj : JnI L i xs := hj
      refine bcase_iff.mpr ⟨fun q => ⟨?_, ?_⟩, fun q => ?_⟩
      · have q : i < L.length := by have := of_decide_eq_true q; simp at this; omega
        intro x4 h4
        have h4 : JnI L ((i : Int).toNat + 1) x4 := h4
        rw [Int.toNat_natCast] at h4
        exact ⟨(i + 1, x4), ⟨rfl, rfl, rfl, rfl, rfl, wr1 (by omega), rfl, rfl, rfl, rfl, rfl, rfl, trivial⟩, h4, by show L.length - (i + 1) < L.length - i; omega⟩
      · have q : i < L.length := by have := of_decide_eq_true q; simp at this; omega
        have a := h.at' _ (h.mem (i := (i : Int).toNat) (by rw [Int.toNat_natCast]; exact q) (0, ⟨#[]⟩, 0, 0))
        show bcase (inB (i : Int) L.length) (bcase ((i : Int).toNat.blt L.length) _ _) _
        rw [inB_nat q, bcase_true, blt_nat q, bcase_true]
        exact heads a (rd_next h hj q (0, ⟨#[]⟩, 0, 0) (fun ys n v => (s = s ∧ L.length = L.length ∧ S.length = S.length ∧ L.length = L.length ∧ (L.length : Int) = (L.length : Int) ∧ (i : Int) = (i : Int) ∧ L = L ∧ tn = tn ∧ tc = tc ∧ S = S ∧ n = ys.length ∧ v = ys ∧ True)) (fun ys => ⟨rfl, rfl, rfl, rfl, rfl, rfl, rfl, rfl, rfl, rfl, rfl, rfl, trivial⟩))
      · have q : L.length ≤ i := by have := of_decide_eq_false q; simp at this; omega
        have e : i = L.length := by have := hj.il; omega
        subst e
        exact ⟨xs, ⟨rfl, rfl, rfl, rfl, rfl, rfl, rfl, rfl, trivial⟩, hj⟩
    · have a := h.at' _ (h.mem l0 (0, ⟨#[]⟩, 0, 0))
      have b1 : inB 0 L.length = true := inB_nat (i := 0) l0
      have b2 : Nat.blt 0 L.length = true := Nat.ble_eq_true_of_le l0
      rw [b1, bcase_true, b2, bcase_true]
      exact heads a (rd_first h l0 (0, ⟨#[]⟩, 0, 0) (fun ys n v => (s = s ∧ L.length = L.length ∧ S.length = S.length ∧ L.length = L.length ∧ (L.length : Int) = (L.length : Int) ∧ Int.ofNat 0 = 0 ∧ L = L ∧ tn = tn ∧ tc = tc ∧ S = S ∧ n = ys.length ∧ v = ys ∧ True)) (fun ys => ⟨rfl, rfl, rfl, rfl, rfl, rfl, rfl, rfl, rfl, rfl, rfl, rfl, trivial⟩))
theorem law_joins (s : ByteArray) : Ans Tryd.prog Vs 3 [.string s] (.bool true) := fun w hw => by
  refine (law_joinsR s w [.string s] [.string s] hw ⟨_, rfl, rfl⟩ ⟨rfl, trivial⟩).mono ?_
  rintro e w' ⟨hb, rvs, rcells, gs, he, hsh, hcd, _⟩
  refine ⟨?_, hb⟩
  cases rvs with
  | nil => exact hsh.elim
  | cons r rvs =>
    obtain ⟨cs, rfl, hsh⟩ := hsh
    cases rvs with
    | nil =>
      have : r = .bool true := hcd.1
      subst this
      exact he
    | cons _ _ => exact hsh.elim
end Go.Proofs.YtobmbbmompoliaaDoor
