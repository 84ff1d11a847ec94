/- Circles and lines of position: contracts. -/
import Derived.Test.YtjdcicjhpegphaaGreatCiV
namespace Go.Proofs.YtjdcicjhpegphaaGreat
open Go Go.Abs Go.RowKit Go.Sine
set_option linter.unusedVariables false
set_option linter.unusedSimpArgs false
/-- What Of answers. -/
def OfA (o o' g g' d d' : Int) : Prop := OfV o o' g g' d d' ∧ OfR o o'
instance (o o' g g' d d' : Int) : Decidable (OfA o o' g g' d d') := by unfold OfA; infer_instance
def ofE (o o' g g' d d' : Int) : Int := if OfV o o' g g' d d' then (if OfR o o' then 0 else 2) else 1
def ofC (o o' g g' d d' x : Int) : Int := if OfA o o' g g' d d' then x else 0
def cLo (g g' : Int) : Int := loL (-g') (-g)
def cHi (g g' : Int) : Int := loH (-g') (-g)
abbrev ofAns (o o' g g' d d' : Int) : Value := pair (cir6 (ofC o o' g g' d d' d) (ofC o o' g g' d d' d') (ofC o o' g g' d d' (cLo g g')) (ofC o o' g g' d d' (cHi g g')) (ofC o o' g g' d d' (5400000 - o')) (ofC o o' g g' d d' (5400000 - o))) (num (ofE o o' g g' d d'))
theorem lon_range {a b : Int} (h : a ≤ b) : -10800000 ≤ loL a b ∧ loL a b < 10800000 ∧ loL a b ≤ loH a b ∧ loH a b < 32400000 ∧ LonP (loL a b) (loH a b) := by
  have hs : -10800000 ≤ sgI a ∧ sgI a < 10800000 := by unfold sgI; omega
  unfold LonP
  unfold loL loH
  split
  · exact ⟨by omega, by omega, by omega, by omega, .inl ⟨rfl, rfl⟩⟩
  · refine ⟨by omega, by omega, by omega, by omega, .inr ⟨by omega, by omega, by omega, ?_⟩⟩
    rw [wrap_in (by omega)]
    omega
/-- What lines.Of answers. -/
def loE (h h' z z' o o' : Int) : Int := if 10800000 ≤ tuH z z' - tuL z z' then 21 else if -600000 ≤ o - h' ∧ o' - h ≤ 600000 then 0 else 24
def loX (h h' z z' o o' x : Int) : Int := if loE h h' z z' o o' = 0 then x else 0
def LoOk (p q h h' z z' o o' : Int) : Prop := NearV p q ∧ LatV h h' ∧ LatV o o' ∧ ArcV z z'
abbrev loAns (p q h h' z z' o o' : Int) : Value := pair (lin6 (loX h h' z z' o o' p) (loX h h' z z' o o' q) (loX h h' z z' o o' (tuL z z')) (loX h h' z z' o o' (tuH z z')) (loX h h' z z' o o' (o - h')) (loX h h' z z' o o' (o' - h))) (num (loE h h' z z' o o'))
/-- Premises of Tangent. -/
def TgOk (a b c d e f p q : Int) : Prop := PtV p q ∧ CirV a b c d e f ∧ -10800000 ≤ c ∧ c < 10800000 ∧ c ≤ d ∧ d < 32400000
abbrev lh (q c : Int) : Int := IntKind.i64.wrap (q - c)
abbrev tgAns (a b c d e f p q : Int) : Value := pair (lin6 p q (zL p p a b (lh q d) (lh q c)) (zH p p a b (lh q d) (lh q c)) (5400000 - hH p p a b (lh q d) (lh q c) - f) (5400000 - hL p p a b (lh q d) (lh q c) - e)) (num 0)
theorem h_range (l l' d d' h h' : Int) (m : (sAl l l' d d' h h').1 ≤ (sAl l l' d d' h h').2) (n : MeT l l' d d' h h') : LatV (hL l l' d d' h h') (hH l l' d d' h h') := by
  have n1 := n.1
  have n2 := n.2
  unfold hL hH asL asH LatV
  have r1 := asn_range (max (sAl l l' d d' h h').1 (-1073741824))
  have r2 := asn_range (-min (sAl l l' d d' h h').2 1073741824)
  have o := asn_order (a := max (sAl l l' d d' h h').1 (-1073741824)) (b := min (sAl l l' d d' h h').2 1073741824) (by omega)
  omega
variable {Φ : World → Prop} (hst : ∀ w w', Φ w → Below w.heap.size w w' → Φ w')
include hst
theorem c_cilatitude (a b : Int) : Ans Tryz.prog Φ 27 [wid a b] (.bool (decide (LatV a b))) := by
  refine fn_by hst (Sound.cons (by kernel_rfl) (fun args p v h hp => by unfold sPlV at h; split at h <;> cases h; exact c_plvalid hst _ _ _ _) Sound.nil) (vc_cilatitude a b _) ⟨trivial, ?_⟩
  exact bo_iff ⟨fun h => h.1, fun h => ⟨h, by unfold LonP; exact .inr ⟨by decide, by decide, by decide, by decide⟩⟩⟩
theorem s_Co : Sound Tryz.prog Φ ΓCo :=
  Sound.cons (by kernel_rfl) (fun args p v h hp => by unfold sAnValid at h; split at h <;> cases h; exact c_anvalid hst _ _)
  (Sound.cons (by kernel_rfl) (fun args p v h hp => by unfold sLatB at h; split at h <;> cases h; exact c_cilatitude hst _ _)
  (Sound.cons (by kernel_rfl) (fun args p v h hp => by unfold sLongi at h; split at h <;> cases h; exact c_longi hst hp)
  (Sound.cons (by kernel_rfl) (fun args p v h hp => by unfold sPlV at h; split at h <;> cases h; exact c_plvalid hst _ _ _ _) Sound.nil)))
theorem c_ciof (o o' g g' d d' s s' p p' : Int) : Ans Tryz.prog Φ 6 [wid o o', geo8 g g' d d' s s' p p'] (ofAns o o' g g' d d') := by
  refine fn_by hst (s_Co hst) (vc_ciof o o' g g' d d' s s' p p' _) ?_
  have bad1 : ¬ OfV o o' g g' d d' → (Value.tuple #[cir6 0 0 0 0 0 0, num 1] : Value) = ofAns o o' g g' d d' := fun n => by
    have n2 : ¬ OfA o o' g g' d d' := fun h => n h.1
    simp only [ofAns, ofC, ofE, if_neg n, if_neg n2]
  have bad2 : OfV o o' g g' d d' → ¬ OfR o o' → (Value.tuple #[cir6 0 0 0 0 0 0, num 2] : Value) = ofAns o o' g g' d d' := fun y n => by
    have n2 : ¬ OfA o o' g g' d d' := fun h => n h.2
    simp only [ofAns, ofC, ofE, if_pos y, if_neg n, if_neg n2]
  refine ⟨trivial, bcase_iff.mpr ⟨fun q1 => ?_, fun q1 => ⟨trivial, bcase_iff.mpr ⟨fun q2 => ?_, fun q2 => ⟨trivial, bcase_iff.mpr ⟨fun q3 => ?_, fun q3 => bcase_iff.mpr ⟨fun q4 => ?_, fun q4 => bcase_iff.mpr ⟨fun q5 => ?_, fun q5 => ?_⟩⟩⟩⟩⟩⟩⟩⟩
  all_goals simp only [Bool.not_eq_true', Bool.not_eq_false', decide_eq_true_eq, decide_eq_false_iff_not] at *
  · exact bad1 (fun h => q1 h.1)
  · exact bad1 (fun h => q2 h.2.1)
  · exact bad1 (fun h => q3 h.2.2)
  · exact bad2 ⟨q1, q2, q3⟩ (fun h => by unfold OfR at h; omega)
  · exact bad2 ⟨q1, q2, q3⟩ (fun h => by unfold OfR at h; omega)
  · have y : OfV o o' g g' d d' := ⟨q1, q2, q3⟩
    have r : OfR o o' := by unfold OfR; omega
    have a : OfA o o' g g' d d' := ⟨y, r⟩
    have q1' := q1
    have q2' := q2
    unfold ArcV at q1' q2'
    rw [wrap_in (n := 0 - g') (by omega), wrap_in (n := 0 - g) (by omega), wrap_in (n := 5400000 - o') (by omega), wrap_in (n := 5400000 - o) (by omega), Int.zero_sub, Int.zero_sub]
    refine ⟨by unfold ArcV; omega, ?_⟩
    simp only [ofAns, ofC, ofE, if_pos y, if_pos r, if_pos a]
    rfl
theorem c_civalid (a b c d e f : Int) : Ans Tryz.prog Φ 31 [cir6 a b c d e f] (.bool (decide (CirV a b c d e f))) := by
  refine fn_by hst (s_Co hst) (vc_civalid a b c d e f _) ?_
  refine ⟨trivial, bcase_iff.mpr ⟨fun q1 => ⟨trivial, bcase_iff.mpr ⟨fun q2 => bcase_iff.mpr ⟨fun q3 => ?_, fun q3 => ?_⟩, fun q2 => ?_⟩⟩, fun q1 => ?_⟩⟩
  all_goals simp only [decide_eq_true_eq, decide_eq_false_iff_not] at *
  · exact bo_iff ⟨fun h => ⟨q1.1, q1.2, q2, q3, h⟩, fun h => h.2.2.2.2⟩
  · exact bo_no (fun h => q3 h.2.2.2.1)
  · exact bo_no (fun h => q2 h.2.2.1)
  · exact bo_no (fun h => q1 ⟨h.1, h.2.1⟩)
theorem c_citriangle (a b c d e f p p' q q' : Int) : Ans Tryz.prog Φ 32 [cir6 a b c d e f, arc4 p p' q q'] (tri6 p p' a b (lh q d) (lh q' c)) := fn_by hst Sound.nil (vc_citriangle a b c d e f p p' q q' _) rfl
theorem c_ciright : Ans Tryz.prog Φ 34 [] (wid 5400000 5400000) := fn_by hst Sound.nil (vc_ciright _) rfl
theorem s_Cx (hm : MeetsAll) : Sound Tryz.prog Φ (ΓCx hL hH zL zH) :=
  Sound.cons (by kernel_rfl) (fun args p v h hp => by unfold sPlOf at h; split at h <;> cases h; exact c_plof hst hp)
  (Sound.cons (by kernel_rfl) (fun args p v h hp => by unfold sCirV at h; split at h <;> cases h; exact c_civalid hst _ _ _ _ _ _)
  (Sound.cons (by kernel_rfl) (fun args p v h hp => by unfold sTrgl at h; split at h <;> cases h; exact c_citriangle hst _ _ _ _ _ _ _ _ _ _)
  (Sound.cons (by kernel_rfl) (fun args p v h hp => by unfold sSolve at h; split at h <;> cases h; exact c_cssolve hst hm hp)
  (Sound.cons (by kernel_rfl) (fun args p v h hp => by unfold sRight at h; split at h <;> cases h; exact c_ciright hst)
  (Sound.pcons (by kernel_rfl) (fun args cell p v h hp => by unfold pLs at h; split at h <;> cases h; obtain ⟨h1, h2⟩ := hp; subst h1; exact zc_pans fun b T => m_ciless hst h2) Sound.nil)))))
omit hst in
theorem TgOk.tri {a b c d e f p q : Int} (h : TgOk a b c d e f p q) : TrV p p a b (lh q d) (lh q c) := by
  obtain ⟨h1, h2, h3, h4, h5, h6⟩ := h
  have h2' := h2.1
  unfold PtV at h1
  refine ⟨by unfold LatV; omega, h2', ?_⟩
  unfold lh
  rw [wrap_in (by omega), wrap_in (by omega)]
  unfold ArcV
  omega
theorem c_citangent (hm : MeetsAll) {a b c d e f p q : Int} (h : TgOk a b c d e f p q) : Ans Tryz.prog Φ 8 [cir6 a b c d e f, wid p q] (tgAns a b c d e f p q) := by
  refine fn_by hst (s_Cx hst hm) (vc_citangent a b c d e f p q hL hH zL zH _) ?_
  have v := h.tri
  have r := h_range _ _ _ _ _ _ (sAl_v v).2.1 (hm _ _ _ _ _ _ v)
  obtain ⟨h1, h2, h3⟩ := h
  rw [decide_eq_true h2]
  obtain ⟨_, _, h4, h5, h6⟩ := h2
  unfold LatV lh at r
  unfold ArcV at h4
  refine ⟨h1, trivial, trivial, v, trivial, ⟨rfl, ?_⟩, ⟨rfl, ?_⟩, rfl⟩
  · unfold SbOk ArcV; omega
  · unfold SbOk ArcV; omega
theorem c_lialtitude (a b : Int) : Ans Tryz.prog Φ 37 [wid a b] (.bool (decide (LatV a b))) := by
  refine fn_by hst (s_Aw hst) (vc_lialtitude a b _) ?_
  refine ⟨trivial, bcase_iff.mpr ⟨fun p => bcase_iff.mpr ⟨fun q => ?_, fun q => ?_⟩, fun p => ?_⟩⟩
  all_goals simp only [decide_eq_true_eq, decide_eq_false_iff_not] at *
  · exact bo_iff (by unfold ArcV at *; unfold LatV; omega)
  · exact bo_no (by unfold ArcV at *; unfold LatV; omega)
  · exact bo_no (by unfold ArcV at *; unfold LatV; omega)
theorem c_livalid (p q z z' i i' : Int) : Ans Tryz.prog Φ 13 [lin6 p q z z' i i'] (.bool (decide (LinV p q z z' i i'))) := by
  refine fn_by hst (Γ := ΓLv) (Sound.cons (by kernel_rfl) (fun args p v h hp => by unfold sAnValid at h; split at h <;> cases h; exact c_anvalid hst _ _) (Sound.cons (by kernel_rfl) (fun args p v h hp => by unfold sNearV at h; split at h <;> cases h; exact c_linear hst _ _) Sound.nil)) (vc_livalid p q z z' i i' _) ?_
  refine ⟨trivial, bcase_iff.mpr ⟨fun q1 => ⟨trivial, bcase_iff.mpr ⟨fun q2 => bcase_iff.mpr ⟨fun q3 => bcase_iff.mpr ⟨fun q4 => bcase_iff.mpr ⟨fun q5 => ⟨trivial, bcase_iff.mpr ⟨fun q6 => bcase_iff.mpr ⟨fun q7 => ?_, fun q7 => ?_⟩, fun q6 => ?_⟩⟩, fun q5 => ?_⟩, fun q4 => ?_⟩, fun q3 => ?_⟩, fun q2 => ?_⟩⟩, fun q1 => ?_⟩⟩
  all_goals simp only [decide_eq_true_eq, decide_eq_false_iff_not] at *
  · exact bo_iff ⟨fun h => ⟨q1, ⟨q2, q3, q4, q5⟩, q6, q7, h⟩, fun h => h.2.2.2.2⟩
  · exact bo_no (fun h => q7 h.2.2.2.1)
  · exact bo_no (fun h => q6 h.2.2.1)
  · exact bo_no (fun h => q5 h.2.1.2.2.2)
  · exact bo_no (fun h => q4 h.2.1.2.2.1)
  · exact bo_no (fun h => q3 h.2.1.2.1)
  · exact bo_no (fun h => q2 h.2.1.1)
  · exact bo_no (fun h => q1 h.1)
theorem c_lisub (a b c d : Int) : Ans Tryz.prog Φ 39 [wid a b, wid c d] (wid (IntKind.i64.wrap (a - d)) (IntKind.i64.wrap (b - c))) := fn_by hst Sound.nil (vc_lisub a b c d _) rfl
theorem c_r5sub (a b c d : Int) : Ans Tryz.prog Φ 11 [wid a b, wid c d] (wid (IntKind.i64.wrap (a - d)) (IntKind.i64.wrap (b - c))) := fn_by hst Sound.nil (vc_r5sub a b c d _) rfl
theorem c_wayat (n : Int) : Ans Tryz.prog Φ 10 [num n] (wid n n) := fn_by hst Sound.nil (vc_wayat n _) rfl
theorem s_Lo : Sound Tryz.prog Φ ΓLo :=
  Sound.cons (by kernel_rfl) (fun args p v h hp => by unfold sAnValid at h; split at h <;> cases h; exact c_anvalid hst _ _)
  (Sound.cons (by kernel_rfl) (fun args p v h hp => by unfold sNearV at h; split at h <;> cases h; exact c_linear hst _ _)
  (Sound.cons (by kernel_rfl) (fun args p v h hp => by unfold sLatB at h; split at h <;> cases h; exact c_lialtitude hst _ _)
  (Sound.cons (by kernel_rfl) (fun args p v h hp => by unfold sAnTurn at h; split at h <;> cases h; exact c_anturn hst hp)
  (Sound.cons (by kernel_rfl) (fun args p v h hp => by unfold sLiSub at h; split at h <;> cases h; exact c_lisub hst _ _ _ _) Sound.nil))))
theorem c_liof {p q h h' z z' o o' : Int} (k : LoOk p q h h' z z' o o') : Ans Tryz.prog Φ 12 [wid p q, arc4 h h' z z', wid o o'] (loAns p q h h' z z' o o') := by
  refine fn_by hst (s_Lo hst) (vc_liof p q h h' z z' o o' _) ?_
  obtain ⟨k1, k2, k3, k4⟩ := k
  rw [decide_eq_true k1, decide_eq_true k2, decide_eq_true k3, decide_eq_true k4]
  have t : 0 ≤ tuL z z' ∧ tuL z z' ≤ tuH z z' ∧ tuH z z' ≤ 43200000 := by
    unfold ArcV at k4
    unfold tuL tuH
    split <;> omega
  unfold LatV at k2 k3
  rw [wrap_in (n := tuH z z' - tuL z z') (by omega), wrap_in (n := o - h') (by omega), wrap_in (n := o' - h) (by omega), wrap_in (n := 0 - 600000) (by decide)]
  refine ⟨trivial, trivial, trivial, trivial, k4, trivial, bcase_iff.mpr ⟨fun q1 => ?_, fun q1 => bcase_iff.mpr ⟨fun q2 => bcase_iff.mpr ⟨fun q3 => ?_, fun q3 => ?_⟩, fun q2 => ?_⟩⟩⟩
  all_goals simp only [Bool.not_eq_true', Bool.not_eq_false', decide_eq_true_eq, decide_eq_false_iff_not] at *
  · have e : loE h h' z z' o o' = 21 := by unfold loE; rw [if_pos q1]
    simp only [loAns, loX, e]
    rfl
  · have e : loE h h' z z' o o' = 24 := by unfold loE; rw [if_neg (by omega), if_neg (by omega)]
    simp only [loAns, loX, e]
    rfl
  · have e : loE h h' z z' o o' = 0 := by unfold loE; rw [if_neg (by omega), if_pos (by omega)]
    simp only [loAns, loX, e]
    rfl
  · have e : loE h h' z z' o o' = 24 := by unfold loE; rw [if_neg (by omega), if_neg (by omega)]
    simp only [loAns, loX, e]
    rfl
end Go.Proofs.YtjdcicjhpegphaaGreat
