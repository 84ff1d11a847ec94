/- A number's own text, read back. -/
import Derived.Test.YtobmbbmompoliaaCtQ
import Derived.Test.YtobmbbmompoliaaVcQ
import Derived.Test.YtobmbbmompoliaaDecT
namespace Go.Proofs.Ytobmbbmompoliaa
open Go Go.Abs Go.RowKit
set_option linter.unusedVariables false
set_option linter.unusedSimpArgs false
theorem u8_in' {n : Int} (h : 0 ≤ n ∧ n ≤ 255) : IntKind.u8.wrap n = n := IntWalk.u8_in _ (by omega)
theorem par_loop (s : ByteArray) (k : Int) (mi : Bool) (X : ByteArray) (l : List UInt8) (hX : X = ⟨l.toArray⟩) (hd : ∀ b ∈ l, 48 ≤ b.toNat ∧ b.toNat ≤ 57) (hN : decN l ≤ 1152921504606846976) (hl : l.length ≤ 100) (K : Value → Prop)
    (hK : K (.tuple #[.int .i64 (if mi then -(decN l : Int) else (decN l : Int)), .int .i64 0])) :
 (∃ (s_1 : Nat),
 (s = s ∧ k = k ∧ mi = mi ∧ 0 = decP l s_1 ∧ X.size = X.size ∧ (↑X.size : Int) = (↑X.size : Int) ∧ 0 = ((s_1 : Nat) : Int) ∧ bytesV X = bytesV X ∧ True) ∧
 s_1.le l.length ∧
 ∀ (s_2 : Nat),
 s_2.le l.length →
 bcase (decide ((↑s_2 : Int) < (↑X.size : Int)))
 (bcase (inB (↑s_2 : Int) X.size)
 (bcase ((↑s_2 : Int).toNat.blt (bytesV X).length)
 (bcase (decide (decP l s_2 > IntKind.i64.wrap ((IntKind.i64.wrap (1152921504606846976 - IntKind.i64.wrap (IntKind.u8.wrap ((bytesV X).getD (↑s_2 : Int).toNat 0 - 48)))).tdiv 10))) (K (Value.tuple #[Value.int IntKind.i64 0, Value.int IntKind.i64 5]))
 (∃ (s_3 : Nat),
 (s = s ∧ k = k ∧ mi = mi ∧ IntKind.i64.wrap (IntKind.i64.wrap (10 * decP l s_2) + IntKind.i64.wrap (IntKind.u8.wrap ((bytesV X).getD (↑s_2 : Int).toNat 0 - 48))) = decP l s_3 ∧ X.size = X.size ∧ (↑X.size : Int) = (↑X.size : Int) ∧ IntKind.i64.wrap ((↑s_2 : Int) + 1) = (↑s_3 : Int) ∧ bytesV X = bytesV X ∧ True) ∧
 s_3.le l.length ∧ l.length - s_3 < l.length - s_2))
 False)
 False)
 (bcase mi (K (Value.tuple #[Value.int IntKind.i64 (IntKind.i64.wrap (0 - decP l s_2)), Value.int IntKind.i64 0])) (K (Value.tuple #[Value.int IntKind.i64 (decP l s_2), Value.int IntKind.i64 0])))) := by
  subst hX
  have sz : (ByteArray.mk l.toArray).size = l.length := size_mk l
  refine ⟨0, ⟨rfl, rfl, rfl, rfl, rfl, rfl, rfl, rfl, trivial⟩, Nat.zero_le _, fun i hi => ?_⟩
  have hi : i ≤ l.length := hi
  refine bcase_iff.mpr ⟨fun q => ?_, fun q => ?_⟩
  · have q := of_decide_eq_true q
    rw [sz] at q
    have q : i < l.length := by omega
    have hc : (bytesV (ByteArray.mk l.toArray)).getD (i : Int).toNat 0 = ((l[i]).toNat : Int) := by unfold bytesV; simp [q]
    have dc := hd l[i] (List.getElem_mem q)
    have st : decN (l.take (i + 1)) = 10 * decN (l.take i) + ((l[i]).toNat - 48) := by rw [← List.take_append_getElem q, decN_snoc]
    have mn : decN (l.take (i + 1)) ≤ decN l := by have := decN_mono (l.drop (i + 1)) (l.take (i + 1)); rwa [List.take_append_drop] at this
    rw [inB_yes (by omega) (by rw [sz]; omega), bcase_true, blt_yes (by rw [bytesV_length, sz]; exact q), bcase_true, hc]
    have d0 : decP l i = (decN (l.take i) : Nat) := rfl
    have d1 : decP l (i + 1) = (decN (l.take (i + 1)) : Nat) := rfl
    generalize (l[i]).toNat = c at *
    rw [u8_in' (by omega), wrap_in (n := (c : Int) - 48) (by omega), wrap_in (n := 1152921504606846976 - ((c : Int) - 48)) (by omega), Int.tdiv_eq_ediv_of_nonneg (by omega), wrap_in (n := (1152921504606846976 - ((c : Int) - 48)) / 10) (by omega), decide_eq_false (by omega), bcase_false]
    refine ⟨i + 1, ⟨rfl, rfl, rfl, ?_, rfl, rfl, ?_, rfl, trivial⟩, ?_, ?_⟩
    · rw [d1, d0, wrap_in (n := 10 * ((decN (List.take i l) : Nat) : Int)) (by omega), wrap_in (by omega)]; omega
    · rw [wrap_in (by omega)]; rfl
    · show i + 1 ≤ l.length; omega
    · show l.length - (i + 1) < l.length - i; omega
  · have q := of_decide_eq_false q
    rw [sz] at q
    have e : i = l.length := by omega
    have d0 : decP l i = (decN l : Nat) := by unfold decP; rw [e, List.take_length]
    rw [d0]
    cases mi
    · exact hK
    · show K _
      rw [wrap_in (by omega), show (0 : Int) - (decN l : Int) = -(decN l : Int) by omega]
      exact hK
theorem par_rest (s w p z : ByteArray) (mi po : Bool) (k : Int) (l : List UInt8) (K : Value → Prop) (hp : po = true → AllD p) (hk : (p.size : Int) ≤ k) (hw : w.size ≤ 1000) (hk9 : k ≤ 9) (hz : z = ⟨#[]⟩) (hX : w ++ p ++ z = ⟨l.toArray⟩)
    (hR : RP (ByteArray.mk #[48]) (IntKind.i64.wrap (k - (p.size : Int))) z) (hd : ∀ b ∈ l, 48 ≤ b.toNat ∧ b.toNat ≤ 57) (hN : decN l ≤ 1152921504606846976) (hl : l.length ≤ 100)
    (hK : K (.tuple #[.int .i64 (if mi then -(decN l : Int) else (decN l : Int)), .int .i64 0])) :
 (bcase po
 (AllD p ∧
 bcase (decide ((↑p.size : Int) > k)) (K (Value.tuple #[Value.int IntKind.i64 0, Value.int IntKind.i64 7]))
 (bcase (tooLong w p) False
 (RP (ByteArray.mk #[48]) (IntKind.i64.wrap (k - (↑p.size : Int))) z ∧
 bcase (tooLong (w ++ p) z) False
 (∃ (s_1 : Nat),
 (s = s ∧ k = k ∧ mi = mi ∧ 0 = decP l s_1 ∧ (w ++ p ++ z).size = (w ++ p ++ z).size ∧ (↑(w ++ p ++ z).size : Int) = (↑(w ++ p ++ z).size : Int) ∧ 0 = (↑s_1 : Int) ∧ bytesV (w ++ p ++ z) = bytesV (w ++ p ++ z) ∧ True) ∧
 s_1.le l.length ∧
 ∀ (s_2 : Nat),
 s_2.le l.length →
 bcase (decide ((↑s_2 : Int) < (↑(w ++ p ++ z).size : Int)))
 (bcase (inB (↑s_2 : Int) (w ++ p ++ z).size)
 (bcase ((↑s_2 : Int).toNat.blt (bytesV (w ++ p ++ z)).length)
 (bcase (decide (decP l s_2 > IntKind.i64.wrap ((IntKind.i64.wrap (1152921504606846976 - IntKind.i64.wrap (IntKind.u8.wrap ((bytesV (w ++ p ++ z)).getD (↑s_2 : Int).toNat 0 - 48)))).tdiv 10))) (K (Value.tuple #[Value.int IntKind.i64 0, Value.int IntKind.i64 5]))
 (∃ (s_3 : Nat),
 (s = s ∧ k = k ∧ mi = mi ∧ IntKind.i64.wrap (IntKind.i64.wrap (10 * decP l s_2) + IntKind.i64.wrap (IntKind.u8.wrap ((bytesV (w ++ p ++ z)).getD (↑s_2 : Int).toNat 0 - 48))) = decP l s_3 ∧ (w ++ p ++ z).size = (w ++ p ++ z).size ∧ (↑(w ++ p ++ z).size : Int) = (↑(w ++ p ++ z).size : Int) ∧ IntKind.i64.wrap ((↑s_2 : Int) + 1) = (↑s_3 : Int) ∧ bytesV (w ++ p ++ z) = bytesV (w ++ p ++ z) ∧ True) ∧
 s_3.le l.length ∧ l.length - s_3 < l.length - s_2))
 False)
 False)
 (bcase mi (K (Value.tuple #[Value.int IntKind.i64 (IntKind.i64.wrap (0 - decP l s_2)), Value.int IntKind.i64 0])) (K (Value.tuple #[Value.int IntKind.i64 (decP l s_2), Value.int IntKind.i64 0])))))))
 (bcase (tooLong w p) False
 (RP (ByteArray.mk #[48]) (IntKind.i64.wrap (k - (↑p.size : Int))) z ∧
 bcase (tooLong (w ++ p) z) False
 (∃ (s_1 : Nat),
 (s = s ∧ k = k ∧ mi = mi ∧ 0 = decP l s_1 ∧ (w ++ p ++ z).size = (w ++ p ++ z).size ∧ (↑(w ++ p ++ z).size : Int) = (↑(w ++ p ++ z).size : Int) ∧ 0 = (↑s_1 : Int) ∧ bytesV (w ++ p ++ z) = bytesV (w ++ p ++ z) ∧ True) ∧
 s_1.le l.length ∧
 ∀ (s_2 : Nat),
 s_2.le l.length →
 bcase (decide ((↑s_2 : Int) < (↑(w ++ p ++ z).size : Int)))
 (bcase (inB (↑s_2 : Int) (w ++ p ++ z).size)
 (bcase ((↑s_2 : Int).toNat.blt (bytesV (w ++ p ++ z)).length)
 (bcase (decide (decP l s_2 > IntKind.i64.wrap ((IntKind.i64.wrap (1152921504606846976 - IntKind.i64.wrap (IntKind.u8.wrap ((bytesV (w ++ p ++ z)).getD (↑s_2 : Int).toNat 0 - 48)))).tdiv 10))) (K (Value.tuple #[Value.int IntKind.i64 0, Value.int IntKind.i64 5]))
 (∃ (s_3 : Nat),
 (s = s ∧ k = k ∧ mi = mi ∧ IntKind.i64.wrap (IntKind.i64.wrap (10 * decP l s_2) + IntKind.i64.wrap (IntKind.u8.wrap ((bytesV (w ++ p ++ z)).getD (↑s_2 : Int).toNat 0 - 48))) = decP l s_3 ∧ (w ++ p ++ z).size = (w ++ p ++ z).size ∧ (↑(w ++ p ++ z).size : Int) = (↑(w ++ p ++ z).size : Int) ∧ IntKind.i64.wrap ((↑s_2 : Int) + 1) = (↑s_3 : Int) ∧ bytesV (w ++ p ++ z) = bytesV (w ++ p ++ z) ∧ True) ∧
 s_3.le l.length ∧ l.length - s_3 < l.length - s_2))
 False)
 False)
 (bcase mi (K (Value.tuple #[Value.int IntKind.i64 (IntKind.i64.wrap (0 - decP l s_2)), Value.int IntKind.i64 0])) (K (Value.tuple #[Value.int IntKind.i64 (decP l s_2), Value.int IntKind.i64 0]))))))) := by
  have lp := par_loop s k mi (w ++ p ++ z) l hX hd hN hl K hK
  have t1 : tooLong w p = false := not_long (by omega)
  have t2 : tooLong (w ++ p) z = false := not_long (by rw [ByteArray.size_append, hz]; show _ + 0 ≤ _; omega)
  rw [t1, t2, bcase_false, bcase_false, decide_eq_false (show ¬ (p.size : Int) > k by omega), bcase_false]
  exact bcase_iff.mpr ⟨fun q => ⟨hp q, hR, lp⟩, fun q => ⟨hR, lp⟩⟩
theorem get_mem {s : ByteArray} {i : Nat} (h : i < s.data.toList.length) : s.get! i ∈ s.data.toList := by
  obtain ⟨d⟩ := s
  have h' : i < d.size := by simpa using h
  have e : (ByteArray.mk d).get! i = d[i] := getElem!_pos d i h'
  rw [e]; simp
theorem emp_list : (ByteArray.mk #[]).toList = [] := by rw [ByteArray.toList_eq]
variable {Φ : World → Prop} (hst : ∀ w w', Φ w → Below w.heap.size w w' → Φ w')
include hst
theorem c_allD (s : ByteArray) (h : AllD s) : Ans Try.prog Φ 25 [.string s, .func (.func 26) ⟨[]⟩ ⟨[]⟩] (.bool true) := by
  obtain ⟨h1, h2, h3⟩ := h
  refine fn_by hst Sound.nil (vc_allD s _) ?_
  have sz : s.size = s.data.toList.length := Lib.size_eq s
  refine ⟨0, ⟨rfl, rfl, rfl, rfl, trivial⟩, Nat.zero_le _, fun i hi => ?_⟩
  have hi : i ≤ s.data.toList.length := hi
  refine bcase_iff.mpr ⟨fun q => ?_, fun q => ?_⟩
  · have q := of_decide_eq_true q
    have q : i < s.data.toList.length := by omega
    have dc := h3 _ (get_mem q)
    have e : (i : Int).toNat = i := rfl
    rw [inB_yes (by omega) (by omega), bcase_true, e, decide_eq_true (show ((s.get! i).toNat : Int) ≥ 48 by omega), decide_eq_true (show ((s.get! i).toNat : Int) ≤ 57 by omega), bcase_true, Bool.not_true, bcase_false]
    refine ⟨i + 1, ⟨rfl, rfl, rfl, ?_, trivial⟩, ?_, ?_⟩
    · rw [wrap_in (by omega)]; rfl
    · show i + 1 ≤ s.data.toList.length; omega
    · show s.data.toList.length - (i + 1) < s.data.toList.length - i; omega
  · have e : (s.toList == []) = false := by
      rw [ByteArray.toList_eq, beq_eq_false_iff_ne]; exact h2
    show Value.bool (!(s.toList == [])) = _
    rw [e]; rfl
theorem s_Pa (hΦ : ∀ w, Φ w → Vs w) (b w p z : ByteArray) (mi po : Bool) : Sound Try.prog Φ (ΓPa b w p z mi po) :=
  Sound.cons (by kernel_rfl) (fun args pr v h hp => by
      split at h <;> cases h
      obtain ⟨rfl, rfl⟩ := hp
      exact fun w _ => (Try.strings_CutPrefix _ _ w).mono (by rintro e w' ⟨rfl, rfl⟩; exact ⟨rfl, Below.refl _ _⟩))
  (Sound.cons (by kernel_rfl) (fun args pr v h hp => by
      split at h <;> cases h
      obtain ⟨hs, rfl, rfl, rfl⟩ := hp
      exact fun w hw => by
        obtain ⟨m, hm⟩ := hΦ w hw
        exact (Try.strings_Cut _ _ m w hs hm).mono (by rintro e w' ⟨rfl, n, rfl⟩; exact ⟨rfl, below_drewN (Below.refl _ _) n⟩))
  (Sound.cons (by kernel_rfl) (fun args pr v h hp => by
      split at h <;> cases h
      rename_i s c
      obtain ⟨⟨h0, h1, h2⟩, rfl⟩ := hp
      intro w _
      have hc : ((c.toNat : Nat) : Int) = c := by omega
      have := Try.strings_Repeat s c.toNat w (by omega) (by have := Nat.mul_le_mul h2 (show c.toNat ≤ 1000 by omega); omega)
      rw [hc] at this
      exact this)
  (Sound.cons (by kernel_rfl) (fun args pr v h hp => by
      unfold sAllD at h; split at h <;> cases h
      exact c_allD hst _ hp) Sound.nil)))
theorem c_parse (hΦ : ∀ w, Φ w → Vs w) (s : ByteArray) (k : Int) (h : PF s k) : Ans Try.prog Φ 10 [.string s, num k] (pair (num (valF s)) (num 0)) := by
  obtain ⟨n, hF, rfl⟩ := h
  rw [valF_fB hF]
  have hF' := hF
  obtain ⟨⟨n0, n1⟩, k0, k1⟩ := hF'
  have hfB : (fB n k).data.toList = fL n k.toNat := by unfold fB; simp
  have hsz := fB_size hF
  have hd : decN (digL (n.natAbs / 10 ^ k.toNat) 1 ++ digL (n.natAbs % 10 ^ k.toNat) k.toNat) = n.natAbs := by rw [← digL_split, decN_digL]
  have lF := digL_lenE k.toNat (n.natAbs % 10 ^ k.toNat) (Nat.mod_lt _ (Nat.pow_pos (by decide)))
  have dW := digL_dig (n.natAbs / 10 ^ k.toNat) 1
  have dF := digL_dig (n.natAbs % 10 ^ k.toNat) k.toNat
  have lead := @digL_lead (n.natAbs / 10 ^ k.toNat)
  obtain ⟨c, r, hc⟩ := digL_some (n.natAbs / 10 ^ k.toNat)
  have lT : (fL n k.toNat).length ≤ 41 := by rw [← hfB, ← Lib.size_eq]; exact hsz
  unfold fL at hfB lT
  generalize digL (n.natAbs / 10 ^ k.toNat) 1 = W at *
  generalize digL (n.natAbs % 10 ^ k.toNat) k.toNat = F at *
  have cn : c ≠ 45 := by have := (dW c (by rw [hc]; simp)).1; intro e; rw [e] at this; revert this; decide
  have lT' : W.length + F.length ≤ 41 := by simp only [List.length_append] at lT; omega
  have lB : (W ++ (if k.toNat = 0 then [] else [46]) ++ F).length ≤ 41 := by simp only [List.length_append] at lT ⊢; omega
  have hCP : CP (fB n k) (ByteArray.mk #[45]) ⟨(W ++ (if k.toNat = 0 then [] else [46]) ++ F).toArray⟩ (decide (n < 0)) := by
    unfold CP
    rw [hfB]
    show (ByteArray.mk (Lib.trimPrefix _ [45]).toArray = _) ∧ Lib.hasPrefix _ [45] = _
    by_cases q : n < 0
    · rw [if_pos q, decide_eq_true q]
      exact ⟨rfl, rfl⟩
    · rw [if_neg q, decide_eq_false q, List.nil_append, hc]
      have nb : (45 == c) = false := by rw [beq_eq_false_iff_ne]; exact fun e => cn e.symm
      have hh : ∀ x : List UInt8, Lib.hasPrefix (c :: x) [45] = false := fun x => by unfold Lib.hasPrefix; simp [List.isPrefixOf, nb]
      refine ⟨?_, hh _⟩
      unfold Lib.trimPrefix
      rw [if_neg (by rw [show (c :: r ++ (if k.toNat = 0 then [] else [46]) ++ F) = c :: (r ++ (if k.toNat = 0 then [] else [46]) ++ F) by simp, hh]; decide)]
  have hCT : CT ⟨(W ++ (if k.toNat = 0 then [] else [46]) ++ F).toArray⟩ (ByteArray.mk #[46]) ⟨W.toArray⟩ ⟨F.toArray⟩ (decide (k > 0)) := by
    refine ⟨by unfold ShortS; rw [size_mk]; omega, ?_⟩
    show (ByteArray.mk (Lib.cut (W ++ (if k.toNat = 0 then [] else [46]) ++ F).toArray.toList [46]).1.toArray = _) ∧ _
    show (ByteArray.mk (Lib.cut (W ++ (if k.toNat = 0 then [] else [46]) ++ F) [46]).1.toArray = _) ∧ (ByteArray.mk (Lib.cut (W ++ (if k.toNat = 0 then [] else [46]) ++ F) [46]).2.1.toArray = _) ∧ (Lib.cut (W ++ (if k.toNat = 0 then [] else [46]) ++ F) [46]).2.2 = _
    by_cases q : k.toNat = 0
    · have : F = [] := List.eq_nil_of_length_eq_zero (by omega)
      subst this
      rw [if_pos q, List.append_nil, List.append_nil, cut_none (fun b hb => (dW b hb).1), decide_eq_false (by omega)]
      exact ⟨rfl, rfl, rfl⟩
    · rw [if_neg q, show W ++ [46] ++ F = W ++ 46 :: F by simp, cut_at (fun b hb => (dW b hb).1), decide_eq_true (by omega)]
      exact ⟨rfl, rfl, rfl⟩
  have sW : (ByteArray.mk W.toArray).size = W.length := size_mk W
  have sF : (ByteArray.mk F.toArray).size = F.length := size_mk F
  have hAW : AllD ⟨W.toArray⟩ := by
    refine ⟨by show W.length ≤ 1000; omega, ?_, dW⟩
    show W ≠ []
    rw [hc]; simp
  have hAF : decide (k > 0) = true → AllD ⟨F.toArray⟩ := fun q => by
    have q := of_decide_eq_true q
    refine ⟨by show F.length ≤ 1000; omega, ?_, dF⟩
    show F ≠ []
    intro e
    rw [e] at lF
    simp at lF
    omega
  have hR : RP (ByteArray.mk #[48]) (IntKind.i64.wrap (k - ((ByteArray.mk F.toArray).size : Int))) ⟨#[]⟩ := by
    rw [sF, lF, show k - ((k.toNat : Nat) : Int) = 0 by omega, wrap_in (by omega)]
    exact ⟨⟨by decide, by decide, by decide⟩, rfl⟩
  have rest := par_rest (fB n k) ⟨W.toArray⟩ ⟨F.toArray⟩ ⟨#[]⟩ (decide (n < 0)) (decide (k > 0)) k (W ++ F) (fun v => v = pair (num n) (num 0)) hAF (by omega) (by omega) k1 rfl
    (show (⟨W.toArray⟩ : ByteArray) ++ ⟨F.toArray⟩ ++ ⟨([] : List UInt8).toArray⟩ = ⟨(W ++ F).toArray⟩ by rw [bytes_app, bytes_app, List.append_nil]) hR
    (fun b hb => by rcases List.mem_append.mp hb with hb | hb; exact dW b hb; exact dF b hb) (by omega) (by rw [List.length_append]; omega)
    (by
      rw [hd]
      by_cases q : n < 0
      · rw [decide_eq_true q, if_pos rfl, show -(((n.natAbs : Nat)) : Int) = n by omega]
      · rw [decide_eq_false q, if_neg (by decide), show (((n.natAbs : Nat)) : Int) = n by omega])
  refine fn_by hst (s_Pa hst hΦ ⟨(W ++ (if k.toNat = 0 then [] else [46]) ++ F).toArray⟩ ⟨W.toArray⟩ ⟨F.toArray⟩ ⟨#[]⟩ (decide (n < 0)) (decide (k > 0))) (vc_parse _ _ _ _ _ _ _ _ (W ++ F) _) ?_
  rw [decide_eq_false (show ¬ k < 0 by omega), bcase_false, decide_eq_false (show ¬ k > 9 by omega), bcase_false]
  refine ⟨hCP, hCT, hAW, bcase_iff.mpr ⟨fun q => ?_, fun _ => rest⟩⟩
  have q := of_decide_eq_true q
  rw [sW] at q
  obtain ⟨c', r', e, hc'⟩ := lead (by omega)
  rw [inB_yes (by omega) (by omega), bcase_true]
  have g : (ByteArray.mk W.toArray).get! 0 = c' := by rw [e]; rfl
  rw [g, show (((c'.toNat : Nat) : Int) == 48) = false from beq_eq_false_iff_ne.mpr (by omega), bcase_false]
  exact rest
omit hst in
theorem law_formats (n k : Int) : Ans Try.prog Vs 3 [num n, num k] (.bool true) := by
  refine fn_by st_vs (Sound.cons (by kernel_rfl) (fun args p v h hp => by unfold sParseF at h; split at h <;> cases h; exact c_parse st_vs (fun _ h => h) _ _ hp)
    (Sound.cons (by kernel_rfl) (fun args p v h _ => by unfold sYes at h; split at h <;> cases h; exact c_awake)
    (Sound.cons (by kernel_rfl) (fun args p v h _ => by unfold sFormat at h; split at h <;> cases h; exact c_format st_vs _ _)
    (Sound.cons (by kernel_rfl) (fun args p v h _ => by unfold sFits at h; split at h <;> cases h; exact c_fits st_vs _)
    (Sound.cons (by kernel_rfl) (fun args p v h hp => by unfold sFormatI at h; split at h <;> cases h; exact c_r1format st_vs _ _ hp) Sound.nil))))) (vc_formats n k _) ⟨trivial, trivial, ?_⟩
  by_cases d : Dg9 k
  · have d2 := d
    obtain ⟨d0, d1⟩ := d
    rw [decide_eq_false (show ¬ k < 0 by omega), bcase_false, decide_eq_false (show ¬ k > 9 by omega), bcase_false]
    refine ⟨trivial, ?_⟩
    by_cases f : Fits n
    · have fk : FOk n k := ⟨f, d2⟩
      rw [decide_eq_true f, Bool.not_true, bcase_false, gateS_yes fk, show erF n k = 0 by unfold erF; rw [pick_yes d2, pick_yes f]]
      refine ⟨⟨n, fk, rfl⟩, ?_⟩
      rw [show ((0 : Int) == 0) = true from rfl, bcase_true, beq_self_eq_true, bcase_true, valF_fB fk, beq_self_eq_true]
      exact ⟨fk, rfl⟩
    · rw [decide_eq_false f, gateS_no (fun q : FOk n k => f q.1), show erF n k = 5 by unfold erF; rw [pick_yes d2, pick_no f], emp_list]
      exact rfl
  · have e2 : erF n k = 2 := by unfold erF; rw [pick_no d]
    rw [gateS_no (fun q : FOk n k => d q.2), e2, emp_list]
    refine bcase_iff.mpr ⟨fun _ => by exact rfl, fun q => bcase_iff.mpr ⟨fun _ => by exact rfl, fun p => absurd ⟨?_, ?_⟩ d⟩⟩
    · have := of_decide_eq_false q; omega
    · have := of_decide_eq_false p; omega
end Go.Proofs.Ytobmbbmompoliaa
