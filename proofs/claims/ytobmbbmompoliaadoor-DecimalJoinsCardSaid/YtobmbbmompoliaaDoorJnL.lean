/- The law of tokens that are read again. -/
import Derived.Test.YtobmbbmompoliaaDoorJnV
import Derived.Test.YtobmbbmompoliaaDoorJnC
namespace Go.Proofs.YtobmbbmompoliaaDoor
open Go Go.Abs Go.RowKit
set_option linter.unusedVariables false
set_option linter.unusedSimpArgs false
theorem h_ix (c : Int) : Ans Tryd.prog Vs 32 [.string symS, .int .u8 c] (num (symIx c)) := by
  have h := (s_S 32 (.v sIndexByte) (by kernel_rfl)).2
  exact h [.string symS, .int .u8 c] True _ rfl trivial
def pfB (a b : ByteArray) : Bool := Lib.hasPrefix a.data.toList b.data.toList
theorem s_Jn : Sound Tryd.prog Vs (ΓJn tokL tokLine tokCol tokErr splB pfB boI) :=
  Sound.cons (by kernel_rfl) (fun args p v h _ => by split at h <;> cases h; exact c_awake)
  (Sound.rcons (by kernel_rfl) (fun ads p rds h _ => by unfold sTkJ at h; split at h <;> cases h; exact c_dctokens st_vs h_ix _)
  (Sound.rcons (by kernel_rfl) (fun ads p rds h hp => by split at h <;> cases h; exact r_split (fun w hw => hw) _ _ hp.s hp.p)
  (Sound.cons (by kernel_rfl) (fun args p v h _ => by split at h <;> cases h; exact c_prefix _ _)
  (Sound.icons (by kernel_rfl) ck_ok
  (Sound.icons (by kernel_rfl) st_ok Sound.nil)))))
/-! Lines. -/
theorem spl_rec (a b : ByteArray) {t : List UInt8} {c : UInt8} (ha : c ∉ a.data.toList) : splB (a ++ ⟨(c :: t).toArray⟩ ++ b) ⟨(c :: t).toArray⟩ = a :: splB b ⟨(c :: t).toArray⟩ := by
  have hi : Lib.indexB (a ++ ⟨(c :: t).toArray⟩ ++ b) ⟨(c :: t).toArray⟩ = ((a.data.toList.length : Nat) : Int) := by
    unfold Lib.indexB
    rw [app_list, app_list]
    exact ind_at (t := t) _ _ ha
  have e1 : (a ++ ⟨(c :: t).toArray⟩ ++ b).extract (a.data.toList.length + (ByteArray.mk (c :: t).toArray).size) (a ++ ⟨(c :: t).toArray⟩ ++ b).size = b := by
    apply ext_list
    rw [ex_list, Lib.size_eq (a ++ ⟨(c :: t).toArray⟩ ++ b), List.take_length, app_list, app_list, Lib.size_eq]
    rw [← List.length_append]
    exact List.drop_left
  have e2 : (a ++ ⟨(c :: t).toArray⟩ ++ b).extract 0 (a.data.toList.length + 0) = a := by
    apply ext_list
    rw [ex_list, app_list, app_list, List.append_assoc, Nat.add_zero, List.take_left]
    rfl
  unfold splB
  rw [Lib.countB_hit _ _ _ (by rw [Lib.size_eq]; simp) hi, e1, Nat.add_comm 1, Lib.splitB_hit _ _ _ _ _ hi, e1, e2]
def nlB : ByteArray := ⟨([10] : List UInt8).toArray⟩
theorem spl_lines : ∀ (n : Nat) (s : ByteArray), s.data.toList.length ≤ n → (splB s ⟨([10] : List UInt8).toArray⟩).map (fun x => x.data.toList) = lnF s.data.toList := by
  intro n
  induction n with
  | zero =>
    intro s hs
    have h0 : s.data.toList = [] := List.eq_nil_of_length_eq_zero (by omega)
    rw [spl_one (t := []) (c := 10) s (by rw [h0]; simp), h0]
    simp [h0, lnF]
  | succ n ih =>
    intro s hs
    by_cases h : (10 : UInt8) ∈ s.data.toList
    · obtain ⟨a, b, e, ha⟩ := List.eq_append_cons_of_mem h
      have es : s = (⟨a.toArray⟩ : ByteArray) ++ ⟨([10] : List UInt8).toArray⟩ ++ ⟨b.toArray⟩ := ext_list (by rw [app_list, app_list, e]; simp)
      have hb := ih ⟨b.toArray⟩ (by
        have := congrArg List.length e
        simp at this hs ⊢
        omega)
      rw [e, lnF_rec ha, es, spl_rec (t := []) (c := 10) ⟨a.toArray⟩ ⟨b.toArray⟩ ha, List.map_cons, hb]
    · rw [spl_one (t := []) (c := 10) s h, lnF_one h]
      rfl
theorem lnF_len : ∀ l : List UInt8, (lnF l).length ≤ l.length + 1 ∧ ∀ x ∈ lnF l, x.length ≤ l.length
  | [] => by
    refine ⟨Nat.le_refl _, fun x hx => ?_⟩
    have : x = [] := List.mem_singleton.1 hx
    rw [this]
    exact Nat.le_refl _
  | c :: r => by
    obtain ⟨i1, i2⟩ := lnF_len r
    unfold lnF
    split
    · refine ⟨by simp; omega, fun x hx => ?_⟩
      rcases List.mem_cons.1 hx with rfl | hx
      · exact Nat.zero_le _
      · have := i2 x hx
        simp
        omega
    · split
      · refine ⟨by simp, fun x hx => ?_⟩
        have : x = [c] := List.mem_singleton.1 hx
        rw [this]
        simp
      · rename_i y ys e
        rw [e] at i1 i2
        refine ⟨by simp at i1 ⊢; omega, fun x hx => ?_⟩
        rcases List.mem_cons.1 hx with rfl | hx
        · have := i2 y (List.mem_cons_self ..)
          simp
          omega
        · have := i2 x (List.mem_cons_of_mem _ hx)
          simp
          omega
/-- A token stands in its line. -/
structure AtS (S : List ByteArray) (t : Tok) : Prop where
  l1 : 1 ≤ t.2.2.1
  ll : t.2.2.1 ≤ (S.length : Int)
  lb : S.length ≤ 1000
  c1 : 1 ≤ t.2.2.2
  cl : t.2.2.2 ≤ ((S.getD (t.2.2.1 - 1).toNat ⟨#[]⟩).size : Int) + 1
  cb : (S.getD (t.2.2.1 - 1).toNat ⟨#[]⟩).size ≤ 1000
  pf : pfB ((S.getD (t.2.2.1 - 1).toNat ⟨#[]⟩).extract (t.2.2.2 - 1).toNat (S.getD (t.2.2.1 - 1).toNat ⟨#[]⟩).size) t.2.1 = true
theorem at_s {s : ByteArray} (hs : s.size ≤ 400) {t : Tok} (a : AtOk s.data.toList t) : AtS (splB s ⟨#[10]⟩) t := by
  have hm : (splB s ⟨#[10]⟩).map (fun x => x.data.toList) = lnF s.data.toList := spl_lines _ s (Nat.le_refl _)
  have sz : s.size = s.data.toList.length := (Array.length_toList (xs := s.data)).symm
  obtain ⟨b1, b2⟩ := lnF_len s.data.toList
  generalize splB s ⟨#[10]⟩ = S at hm
  have hl : S.length = (lnF s.data.toList).length := by rw [← hm, List.length_map]
  obtain ⟨a1, a2, a3, a4, a5⟩ := a
  have hi : (t.2.2.1 - 1).toNat < S.length := by omega
  have hg : (lnF s.data.toList).getD (t.2.2.1 - 1).toNat [] = (S.getD (t.2.2.1 - 1).toNat ⟨#[]⟩).data.toList := by
    rw [← hm, List.getD_eq_getElem?_getD, List.getElem?_map, List.getD_eq_getElem?_getD, List.getElem?_eq_getElem hi]
    rfl
  rw [hg] at a4 a5
  have hsz : (S.getD (t.2.2.1 - 1).toNat ⟨#[]⟩).size = (S.getD (t.2.2.1 - 1).toNat ⟨#[]⟩).data.toList.length := (Array.length_toList (xs := (S.getD (t.2.2.1 - 1).toNat ⟨#[]⟩).data)).symm
  have hb := b2 ((lnF s.data.toList).getD (t.2.2.1 - 1).toNat []) (by
    rw [List.getD_eq_getElem?_getD, List.getElem?_eq_getElem (by omega)]
    exact List.getElem_mem _)
  rw [hg] at hb
  refine ⟨a1, by omega, by omega, a3, by omega, by omega, ?_⟩
  unfold pfB Lib.hasPrefix
  rw [List.isPrefixOf_iff_prefix, ex_list, hsz, List.take_length]
  exact a5
theorem heads {S : List ByteArray} {t : Tok} (a : AtS S t) {VF Kc : Prop} (hk : Kc) :
    bcase (decide (t.2.2.1 < 1)) VF
    (bcase (decide (t.2.2.1 > (S.length : Int))) VF
    (bcase (decide (t.2.2.2 < 1)) VF
    (bcase (inB (IntKind.i64.wrap (t.2.2.1 - 1)) S.length)
    (bcase ((IntKind.i64.wrap (t.2.2.1 - 1)).toNat.blt S.length)
    (bcase (decide (t.2.2.2 > IntKind.i64.wrap (((S.getD (IntKind.i64.wrap (t.2.2.1 - 1)).toNat ⟨#[]⟩).size : Int) + 1))) VF
    (bcase (inB (IntKind.i64.wrap (t.2.2.1 - 1)) S.length)
    (bcase ((IntKind.i64.wrap (t.2.2.1 - 1)).toNat.blt S.length)
    (bcase (decide (0 ≤ IntKind.i64.wrap (t.2.2.2 - 1)) && (decide (IntKind.i64.wrap (t.2.2.2 - 1) ≤ ((S.getD (IntKind.i64.wrap (t.2.2.1 - 1)).toNat ⟨#[]⟩).size : Int)) && decide (((S.getD (IntKind.i64.wrap (t.2.2.1 - 1)).toNat ⟨#[]⟩).size : Int) ≤ ((S.getD (IntKind.i64.wrap (t.2.2.1 - 1)).toNat ⟨#[]⟩).size : Int))))
    (True ∧ bcase (!pfB ((S.getD (IntKind.i64.wrap (t.2.2.1 - 1)).toNat ⟨#[]⟩).extract (IntKind.i64.wrap (t.2.2.2 - 1)).toNat (((S.getD (IntKind.i64.wrap (t.2.2.1 - 1)).toNat ⟨#[]⟩).size : Int)).toNat) t.2.1) VF Kc)
    False) False) False)) False) False))) := by
  obtain ⟨a1, a2, a3, a4, a5, a6, a7⟩ := a
  have w1 : IntKind.i64.wrap (t.2.2.1 - 1) = t.2.2.1 - 1 := wrap_in (by omega)
  rw [w1]
  generalize S.getD (t.2.2.1 - 1).toNat ⟨#[]⟩ = x at *
  have w2 : IntKind.i64.wrap (t.2.2.2 - 1) = t.2.2.2 - 1 := wrap_in (by omega)
  have w3 : IntKind.i64.wrap ((x.size : Int) + 1) = (x.size : Int) + 1 := wrap_in (by omega)
  rw [w2, w3, Int.toNat_natCast, a7]
  have e1 : decide (t.2.2.1 < 1) = false := decide_eq_false (by omega)
  have e2 : decide (t.2.2.1 > (S.length : Int)) = false := decide_eq_false (by omega)
  have e3 : decide (t.2.2.2 < 1) = false := decide_eq_false (by omega)
  have e4 : inB (t.2.2.1 - 1) S.length = true := by unfold inB; simp; omega
  have e5 : (t.2.2.1 - 1).toNat.blt S.length = true := Nat.ble_eq_true_of_le (by omega)
  have e6 : decide (t.2.2.2 > (x.size : Int) + 1) = false := decide_eq_false (by omega)
  have e7 : (decide (0 ≤ t.2.2.2 - 1) && (decide (t.2.2.2 - 1 ≤ (x.size : Int)) && decide ((x.size : Int) ≤ (x.size : Int)))) = true := by simp; omega
  rw [e1, bcase_false, e2, bcase_false, e3, bcase_false, e4, bcase_true, e5, bcase_true, e6, bcase_false, e7]
  exact ⟨trivial, hk⟩
/-! What is written. -/
theorem jn_app (a b : List Tok) : jnL (a ++ b) = jnL a ++ jnL b := by unfold jnL; rw [List.flatMap_append]
theorem jn_take {L : List Tok} {i : Nat} (h : i < L.length) (d : Tok) : jnL (L.take (i + 1)) = jnL (L.take i) ++ jnT (L.getD i d) := by
  rw [List.take_succ_eq_append_getElem h, jn_app, List.getD_eq_getElem?_getD, List.getElem?_eq_getElem h]
  unfold jnL
  simp
theorem jn_le {L : List Tok} (i : Nat) : (jnL (L.take i)).length ≤ (jnL L).length := by
  have := jn_app (L.take i) (L.drop i)
  rw [List.take_append_drop] at this
  rw [this, List.length_append]
  omega
def uI (l : List UInt8) : List Int := l.map fun b => (b.toNat : Int)
theorem uI_app (a b : List UInt8) : uI (a ++ b) = uI a ++ uI b := by unfold uI; simp
theorem uI_len (a : List UInt8) : (uI a).length = a.length := by unfold uI; simp
theorem bytes_32 (a : ByteArray) : bytesV (a ++ ⟨#[32]⟩) = uI (a.data.toList ++ [32]) := by
  unfold bytesV uI
  rw [app_list]
theorem size_32 (a : ByteArray) : (a ++ ⟨#[32]⟩ : ByteArray).size = a.data.toList.length + 1 := by
  have h := congrArg List.length (bytes_32 a)
  rw [bytesV_length, uI_len, List.length_append] at h
  exact h
theorem jni_next {L : List Tok} {i : Nat} {xs : List Int} (h : i < L.length) (d : Tok) (hx : xs = uI (jnL (L.take i))) {ys : List Int} (hy : ys = xs ++ uI (jnT (L.getD i d))) : JnI L (i + 1) ys :=
  ⟨by omega, by omega, by rw [hy, hx, ← uI_app, ← jn_take h]; rfl⟩
theorem cap1 {n : Nat} (h : n ≤ 5000) : capOk n 1 = true := by
  unfold capOk
  rw [show Nat.ble (n * 1) 140737488355328 = true from Nat.ble_eq_true_of_le (by omega), show Nat.ble n maxLen = true from Nat.ble_eq_true_of_le (by have : maxLen = 9223372036854775807 := rfl; omega)]
  rfl
theorem short_no (a : ByteArray) (h : a.size ≤ 5000) : tooLong a ⟨#[32]⟩ = false := by
  unfold tooLong
  refine decide_eq_false ?_
  have : (⟨#[32]⟩ : ByteArray).size = 1 := rfl
  have : IntKind.i64.max = 9223372036854775807 := by decide
  omega
end Go.Proofs.YtobmbbmompoliaaDoor
