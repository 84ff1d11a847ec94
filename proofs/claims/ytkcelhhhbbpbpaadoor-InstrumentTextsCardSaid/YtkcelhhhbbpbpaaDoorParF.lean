/- The reference's reading of texts of angles: the contract. -/
import Derived.Test.YtkcelhhhbbpbpaaDoorParE
namespace Go.Proofs.YtkcelhhhbbpbpaaDoor
open Go Go.Abs Go.RowKit
set_option linter.unusedVariables false
set_option linter.unusedSimpArgs false
theorem outerR (s : ByteArray) (x Bi : Int) (Bn X : Nat) (D : List UInt8) (K : Value → Prop) (T : Prop) (hx : x = X) (hBi : Bi = Bn) (hX : X = Bn + D.length) (hX2 : X ≤ 4001) (hs : X ≤ s.size)
    (g0 : ∀ c r, D = c :: r → s.get! Bn = c) (h7 : D = [] ∨ (1 < D.length ∧ D.head? = some 48) → K (.tuple #[.int .i64 0, .int .i64 7])) (hT : ¬ (D = [] ∨ (1 < D.length ∧ D.head? = some 48)) → T) :
    bcase (x == Bi) (K (Value.tuple #[Value.int IntKind.i64 0, Value.int IntKind.i64 7]))
      (bcase (decide (IntKind.i64.wrap (x - Bi) > 1)) (bcase (inB Bi s.size) (bcase (((s.get! Bn).toNat : Int) == 48) (K (Value.tuple #[Value.int IntKind.i64 0, Value.int IntKind.i64 7])) T) False) T) := by
  subst hx hBi
  have w : IntKind.i64.wrap ((X : Int) - (Bn : Int)) = (D.length : Int) := by rw [wrap_in (by omega)]; omega
  rw [w]
  match D, hX, g0, h7, hT with
  | [], hX, g0, h7, hT =>
    have : ((X : Int) == (Bn : Int)) = true := by rw [beq_iff_eq]; simp at hX; omega
    rw [this, bcase_true]
    exact h7 (Or.inl rfl)
  | c :: r, hX, g0, h7, hT =>
    simp only [List.length_cons] at hX
    have : ((X : Int) == (Bn : Int)) = false := by rw [beq_eq_false_iff_ne]; omega
    rw [this, bcase_false, g0 c r rfl]
    have hno : ¬ (1 < (c :: r).length ∧ (c :: r).head? = some 48) → T := fun h => hT (fun h' => by
      rcases h' with h' | h'
      · cases h'
      · exact h h')
    refine bcase_iff.mpr ⟨fun q => ?_, fun q => hno fun h => by have := of_decide_eq_false q; omega⟩
    have q := of_decide_eq_true q
    rw [inY (by omega) (by simp only [List.length_cons] at q; omega), bcase_true]
    refine bcase_iff.mpr ⟨fun e => h7 (Or.inr ⟨by omega, ?_⟩), fun e => hno ?_⟩
    · have e := eq_of_beq e
      have : c = 48 := UInt8.toNat_inj.mp (by show c.toNat = 48; omega)
      rw [this]; rfl
    · rintro ⟨-, h⟩
      have : c = 48 := by simpa using h
      rw [this] at e
      revert e; decide
theorem take_dig {l : List UInt8} {i : Nat} (hi : i < l.length) (ha : (l.take i).all dig = true) (hd : dig l[i] = false) : l.takeWhile dig = l.take i := by
  have h := while_all (p := dig) (l := l.take i) (l.drop i) (fun b hb => List.all_eq_true.mp ha b hb) (fun c q e => by
    rw [List.drop_eq_getElem_cons hi] at e
    rw [← (List.cons.inj e).1]
    exact hd)
  rw [List.take_append_drop] at h
  exact h.1
theorem take_all {l : List UInt8} (ha : l.all dig = true) : l.takeWhile dig = l := by
  have h := while_all (p := dig) (l := l) [] (fun b hb => List.all_eq_true.mp ha b hb) (fun c q e => by cases e)
  rw [List.append_nil] at h
  exact h.1
theorem loop1 (s : ByteArray) (l : List UInt8) (Bi : Int) (Bn : Nat) (PB : Prop) (hPB : PB) (hBi : Bi = Bn) (hB : Bn ≤ 1) (sz : s.size = Bn + l.length) (hl : l.length ≤ 4000) (g : ∀ k (h : k < l.length), s.get! (Bn + k) = l[k]) :
    (∃ (s_1 : Nat),
 (s = s ∧ Int.ofNat 0 = 0 ∧ Int.ofNat 0 = 0 ∧ Int.ofNat 7 = 7 ∧ Bi = Bi + (↑s_1 : Int) ∧ PB ∧ 0 = drI l s_1 ∧ True) ∧
 AllDg l s_1 ∧
 ∀ (s_2 : Nat),
 AllDg l s_2 →
 bcase (decide (Bi + (↑s_2 : Int) < (↑s.size : Int)))
 (bcase (inB (Bi + (↑s_2 : Int)) s.size)
 (bcase (decide ((↑(s.get! (Bi + (↑s_2 : Int)).toNat).toNat : Int) ≥ 48))
 (bcase (decide ((↑(s.get! (Bi + (↑s_2 : Int)).toNat).toNat : Int) ≤ 57))
 (bcase (decide (drI l s_2 ≤ 1099511627776))
 (bcase (inB (Bi + (↑s_2 : Int)) s.size)
 (∃ (s_3 : Nat), (s = s ∧ Int.ofNat 0 = 0 ∧ Int.ofNat 0 = 0 ∧ Int.ofNat 7 = 7 ∧ IntKind.i64.wrap (Bi + (↑s_2 : Int) + 1) = Bi + (↑s_3 : Int) ∧ PB ∧ IntKind.i64.wrap (IntKind.i64.wrap (10 * drI l s_2) + IntKind.i64.wrap (IntKind.u8.wrap ((↑(s.get! (Bi + (↑s_2 : Int)).toNat).toNat : Int) - 48))) = drI l s_3 ∧ True) ∧ AllDg l s_3 ∧ l.length - s_3 < l.length - s_2) False)
 (∃ (s_3 : Nat), (s = s ∧ Int.ofNat 0 = 0 ∧ Int.ofNat 0 = 0 ∧ Int.ofNat 7 = 7 ∧ IntKind.i64.wrap (Bi + (↑s_2 : Int) + 1) = Bi + (↑s_3 : Int) ∧ PB ∧ drI l s_2 = drI l s_3 ∧ True) ∧ AllDg l s_3 ∧ l.length - s_3 < l.length - s_2))
 (∃ (s_3 : Int × Int), (s = s ∧ Int.ofNat 0 = 0 ∧ Int.ofNat 0 = 0 ∧ Int.ofNat 7 = 7 ∧ Bi + (↑s_2 : Int) = s_3.fst ∧ PB ∧ drI l s_2 = s_3.snd ∧ True) ∧ RJ l Bi s_3.fst s_3.snd))
 (∃ (s_3 : Int × Int), (s = s ∧ Int.ofNat 0 = 0 ∧ Int.ofNat 0 = 0 ∧ Int.ofNat 7 = 7 ∧ Bi + (↑s_2 : Int) = s_3.fst ∧ PB ∧ drI l s_2 = s_3.snd ∧ True) ∧ RJ l Bi s_3.fst s_3.snd))
 False)
 (∃ (s_3 : Int × Int), (s = s ∧ Int.ofNat 0 = 0 ∧ Int.ofNat 0 = 0 ∧ Int.ofNat 7 = 7 ∧ Bi + (↑s_2 : Int) = s_3.fst ∧ PB ∧ drI l s_2 = s_3.snd ∧ True) ∧ RJ l Bi s_3.fst s_3.snd)) := by
  refine ⟨0, ⟨rfl, rfl, rfl, rfl, (Int.add_zero Bi).symm, hPB, by unfold drI; rw [List.take_zero]; rfl, trivial⟩, ⟨Nat.zero_le _, rfl⟩, fun i ⟨hi, ha⟩ => ?_⟩
  subst hBi
  have e1 : (Bn : Int) + (i : Int) = ((Bn + i : Nat) : Int) := by omega
  rw [e1]
  have done : ∀ (h : l.takeWhile dig = l.take i), RJ l (Bn : Int) ((Bn + i : Nat) : Int) (drI l i) := fun h => ⟨by rw [h, List.length_take]; omega, by rw [h]; rfl⟩
  refine bcase_iff.mpr ⟨fun c => ?_, fun c => ?_⟩
  · have c := of_decide_eq_true c
    have hi2 : i < l.length := by omega
    rw [inY (by omega) (by omega), bcase_true, bcase_true, Int.toNat_natCast, g i hi2]
    refine bcase_iff.mpr ⟨fun c1 => bcase_iff.mpr ⟨fun c2 => ?_, fun c2 => ?_⟩, fun c1 => ?_⟩
    · have c1 := of_decide_eq_true c1
      have c2 := of_decide_eq_true c2
      have hd : dig l[i] = true := dig_iff.mpr (by omega)
      have w : IntKind.i64.wrap (((Bn + i : Nat) : Int) + 1) = (Bn : Int) + ((i + 1 : Nat) : Int) := by rw [wrap_in (by omega)]; omega
      have hk : AllDg l (i + 1) := ⟨by omega, all_take hi2 ha hd⟩
      have bd := (drF_i (l.take i) (all_iff.mp ha) (l.take i).length (Nat.le_refl _)).1
      rw [List.take_length] at bd
      refine bcase_iff.mpr ⟨fun c3 => ?_, fun c3 => ?_⟩
      · have c3 := of_decide_eq_true c3
        unfold drI at c3
        refine ⟨i + 1, ⟨rfl, rfl, rfl, rfl, w, hPB, ?_, trivial⟩, hk, by omega⟩
        unfold drI
        rw [drF_take hi2, if_pos (by omega)]
        generalize (l[i]).toNat = e at *
        generalize drF (l.take i) = d at *
        rw [u8w (by omega), wrap_in (n := (e : Int) - 48) (by omega), wrap_in (n := 10 * _) (by omega), wrap_in (by omega)]
        omega
      · have c3 := of_decide_eq_false c3
        unfold drI at c3
        refine ⟨i + 1, ⟨rfl, rfl, rfl, rfl, w, hPB, ?_, trivial⟩, hk, by omega⟩
        unfold drI
        rw [drF_take hi2, if_neg (by omega)]
    · have c2 := of_decide_eq_false c2
      exact ⟨(((Bn + i : Nat) : Int), drI l i), ⟨rfl, rfl, rfl, rfl, rfl, hPB, rfl, trivial⟩, done (take_dig hi2 ha (dig_no.mpr (by omega)))⟩
    · have c1 := of_decide_eq_false c1
      exact ⟨(((Bn + i : Nat) : Int), drI l i), ⟨rfl, rfl, rfl, rfl, rfl, hPB, rfl, trivial⟩, done (take_dig hi2 ha (dig_no.mpr (by omega)))⟩
  · have c := of_decide_eq_false c
    have e : i = l.length := by omega
    refine ⟨(((Bn + i : Nat) : Int), drI l i), ⟨rfl, rfl, rfl, rfl, rfl, hPB, rfl, trivial⟩, done ?_⟩
    rw [e, List.take_length] at ha ⊢
    exact take_all ha
section
variable {Φ : World → Prop} (hst : ∀ w w', Φ w → Below w.heap.size w w' → Φ w')
include hst
set_option maxHeartbeats 1000000 in
theorem c_r5parse (s : ByteArray) (h : SL s) : Ans Tryd.prog Φ 38 [.string s] (.tuple #[.int .i64 (parV s), .int .i64 (parE s)]) := by
  have h : s.data.toList.length ≤ 4000 := h
  have sz : s.size = s.data.toList.length := Lib.size_eq s
  have hV : parV s = (parL s.data.toList).1 := rfl
  have hE : parE s = (parL s.data.toList).2 := rfl
  have hP : parL s.data.toList = rT ((body s.data.toList).takeWhile dig) ((body s.data.toList).dropWhile dig) (neg s.data.toList) := rfl
  rw [hV, hE, hP]
  have gs : ∀ k (hk : k < s.data.toList.length), s.get! k = s.data.toList[k] := fun k hk => get_list hk
  refine fn_by hst Sound.nil (vc_r5parse s (body s.data.toList) (((body s.data.toList).dropWhile dig).drop 4) _) ?_
  generalize hl0 : s.data.toList = l0 at *
  clear hV hE hP
  -- what follows the sign, wherever it begins
  have rest : ∀ (Bn : Nat) (b : List UInt8) (mi : Bool), Bn ≤ 1 → s.size = Bn + b.length → b.length ≤ 4000 → (∀ k (h : k < b.length), s.get! (Bn + k) = b[k]) → ∀ (K : Value → Prop), (K (.tuple #[.int .i64 (rT (b.takeWhile dig) (b.dropWhile dig) mi).1, .int .i64 (rT (b.takeWhile dig) (b.dropWhile dig) mi).2])) →
      ∀ (x z : Int), RJ b (Bn : Int) x z → ∃ X : Nat, x = (X : Int) ∧ X = Bn + (b.takeWhile dig).length ∧ X ≤ 4001 ∧ s.size = X + (b.dropWhile dig).length ∧ (b.dropWhile dig).length ≤ 4000 ∧ (∀ k (h : k < (b.dropWhile dig).length), s.get! (X + k) = (b.dropWhile dig)[k]) ∧
        (∀ c r, b.takeWhile dig = c :: r → s.get! Bn = c) ∧ z = ((drF (b.takeWhile dig) : Nat) : Int) ∧ drF (b.takeWhile dig) ≤ 10995116277769 ∧ (∀ y ∈ b.takeWhile dig, 48 ≤ y.toNat ∧ y.toNat ≤ 57) := by
    intro Bn b mi hB sz hb g K hK x z ⟨hx, hz⟩
    have e := List.takeWhile_append_dropWhile (p := dig) (l := b)
    have hd : ∀ y ∈ b.takeWhile dig, 48 ≤ y.toNat ∧ y.toNat ≤ 57 := fun y hy => dig_iff.mp (List.all_eq_true.mp List.all_takeWhile y hy)
    have el := congrArg List.length e
    rw [List.length_append] at el
    refine ⟨Bn + (b.takeWhile dig).length, by omega, rfl, by omega, by omega, by omega, fun k hk => ?_, fun c r ec => ?_, hz, (drF_tail _ hd 0 0 mi).1, hd⟩
    · rw [Nat.add_assoc, g _ (by omega)]
      have : b[(b.takeWhile dig).length + k]'(by omega) = (b.takeWhile dig ++ b.dropWhile dig)[(b.takeWhile dig).length + k]'(by rw [List.length_append]; omega) := by congr 1; exact e.symm
      rw [this, List.getElem_append_right (by omega)]
      congr 1
      omega
    · have h0 : 0 < b.length := by rw [ec] at el; simp at el; omega
      have := g 0 h0
      rw [Nat.add_zero] at this
      rw [this]
      have e2 := e
      rw [ec] at e2
      have : b[0]'h0 = (c :: r ++ b.dropWhile dig)[0]'(by simp) := by congr 1; exact e2.symm
      rw [this]
      rfl
  have mE : ∀ (X : Nat) (x y : UInt8), X ≤ 4001 → s.get! (X + 1) = x → s.get! (X + 2) = y → dig x = true → dig y = true →
      IntKind.i64.wrap (IntKind.i64.wrap (10 * IntKind.i64.wrap (IntKind.u8.wrap (((s.get! (IntKind.i64.wrap ((X : Int) + 1)).toNat).toNat : Int) - 48))) + IntKind.i64.wrap (IntKind.u8.wrap (((s.get! (IntKind.i64.wrap ((X : Int) + 2)).toNat).toNat : Int) - 48))) = ((10 * (x.toNat - 48) + (y.toNat - 48) : Nat) : Int) := by
    intro X x y hX g1 g2 hx hy
    have hx := dig_iff.mp hx
    have hy := dig_iff.mp hy
    rw [wrap_in (n := (X : Int) + 1) (by omega), wrap_in (n := (X : Int) + 2) (by omega), show ((X : Int) + 1).toNat = X + 1 by omega, show ((X : Int) + 2).toNat = X + 2 by omega, g1, g2]
    rw [u8w (by omega), u8w (by omega), wrap_in (n := (x.toNat : Int) - 48) (by omega), wrap_in (n := (y.toNat : Int) - 48) (by omega), wrap_in (n := 10 * _) (by omega), wrap_in (by omega)]
    omega
  have W4 : ∀ X : Nat, X ≤ 4001 → IntKind.i64.wrap (IntKind.i64.wrap ((X : Int) + 3) + 1) = ((X + 4 : Nat) : Int) := fun X hX => by rw [wrap_in (n := (X : Int) + 3) (by omega), wrap_in (by omega)]; omega
  cases l0 with
  | nil =>
    simp only [List.length_nil] at sz
    rw [decide_eq_false (show ¬ (s.size : Int) > 0 by omega), bcase_false]
    have eb : body ([] : List UInt8) = [] := rfl
    have en : neg ([] : List UInt8) = false := rfl
    rw [eb, en]
    refine ⟨fun ⟨x, z⟩ hR => ?_, loop1 s ([] : List UInt8) _ 0 _ rfl rfl (by omega) (show s.size = 0 + 0 by omega) (Nat.zero_le _) (fun k hk => by simp at hk)⟩
    dsimp only at hR ⊢
    have R := rest 0 ([] : List UInt8) false (by omega) (show s.size = 0 + 0 by omega) (Nat.zero_le _) (fun k hk => by simp at hk) (fun v => v = .tuple #[.int .i64 (rT (([] : List UInt8).takeWhile dig) (([] : List UInt8).dropWhile dig) false).1, .int .i64 (rT (([] : List UInt8).takeWhile dig) (([] : List UInt8).dropWhile dig) false).2]) rfl x z hR
    clear hR
    generalize ([] : List UInt8).takeWhile dig = D at *
    generalize ([] : List UInt8).dropWhile dig = r at *
    obtain ⟨X, rfl, hX, hX2, sz2, hr, g, g1, hz, hd, hD⟩ := R
    refine outerR s _ _ 0 X D (fun v => v = .tuple #[.int .i64 (rT D r false).1, .int .i64 (rT D r false).2]) _ rfl rfl hX hX2 (by omega) g1 (fun hb => by rw [rT_bad (Or.inl hb)]) (fun hno => ?_)
    refine restT s _ z X (drF D) r false (fun v => v = .tuple #[.int .i64 (rT D r false).1, .int .i64 (rT D r false).2]) _ rfl hz hX2 sz2 hr hd g (fun hb => ?_) (fun a b q er da db a5 hq hq3 => ?_) (fun a b er da db a5 => ?_)
    · rw [rT_bad (Or.inr fun m' x' y' q' e => (hb m' x' y' q' e).imp id (fun h => ⟨h.1, h.2.imp id (fun h => h.imp id Or.inl)⟩))]
    · have n3 : ¬ ((45 : UInt8) ≠ 45 ∨ dig a = false ∨ dig b = false ∨ 53 < a.toNat) := by
        rintro (h | h | h | h)
        · exact h rfl
        · rw [da] at h; cases h
        · rw [db] at h; cases h
        · omega
      subst er
      have hda := dig_iff.mp da
      have hdb := dig_iff.mp db
      have ga := g 1 (by simp)
      have gb := g 2 (by simp)
      simp only [List.getElem_cons_zero, List.getElem_cons_succ] at ga gb
      simp only [List.length_cons] at sz2 hr
      have dr : (45 :: a :: b :: 46 :: q).drop 4 = q := rfl
      rw [dr]
      refine loopR s q _ _ z (X + 4) (10 * (a.toNat - 48) + (b.toNat - 48)) (drF D) false (fun v => v = .tuple #[.int .i64 (rT D (45 :: a :: b :: 46 :: q) false).1, .int .i64 (rT D (45 :: a :: b :: 46 :: q) false).2]) _ rfl (W4 X hX2) (mE X a b hX2 ga gb da db) hz (by omega) (by omega) hq3 (by omega) hd (fun k hk => ?_) (fun hb => ?_) (fun hb => ?_)
      · have := g (k + 4) (by simp only [List.length_cons]; omega)
        rw [show X + 4 + k = X + (k + 4) by omega, this]
        rfl
      · rw [rT_bad (Or.inr fun m' x' y' q' e => by
          simp only [List.cons.injEq] at e
          obtain ⟨rfl, rfl, rfl, rfl⟩ := e
          exact Or.inr ⟨by simp, Or.inr (Or.inr (Or.inr hb))⟩)]
      · have ln : q.length ≠ 0 := fun h => hq (List.eq_nil_of_length_eq_zero h)
        rw [rT_good hno n3 (by
          rintro ⟨-, h | h | h | h⟩
          · exact h rfl
          · exact ln (by simpa using h)
          · simp at h; omega
          · rw [show (46 :: q).drop 1 = q from rfl, hb] at h; cases h), ← (drF_tail D hD _ _ false).2]
        rfl
    · have n3 : ¬ ((45 : UInt8) ≠ 45 ∨ dig a = false ∨ dig b = false ∨ 53 < a.toNat) := by
        rintro (h | h | h | h)
        · exact h rfl
        · rw [da] at h; cases h
        · rw [db] at h; cases h
        · omega
      rw [er, rT_good hno n3 (by rintro ⟨h, -⟩; exact h rfl), ← (drF_tail D hD _ _ false).2]
      rfl
  | cons c t =>
    simp only [List.length_cons] at sz h
    have g0 : s.get! 0 = c := gs 0 (by simp)
    refine bcase_iff.mpr ⟨fun _ => ?_, fun q => absurd (of_decide_eq_false q) (by omega)⟩
    refine bcase_iff.mpr ⟨fun _ => ?_, fun q => by rw [inY (by omega) (by omega)] at q; cases q⟩
    by_cases hc : c = 45
    · have eb : body (c :: t) = t := by rw [hc]; rfl
      have en : neg (c :: t) = true := by rw [hc]; rfl
      rw [eb, en]
      refine bcase_iff.mpr ⟨fun _ => ?_, fun q => absurd (by rw [g0, hc]; rfl) (ne_of_beq_false q)⟩
      have gt : ∀ k (hk : k < t.length), s.get! (1 + k) = t[k] := fun k hk => by
        rw [gs (1 + k) (by simp only [List.length_cons]; omega)]
        simp [Nat.add_comm 1 k]
      refine ⟨fun ⟨x, z⟩ hR => ?_, loop1 s t _ 1 _ rfl rfl (by omega) (by omega) (by omega) gt⟩
      dsimp only at hR ⊢
      have R := rest 1 t true (by omega) (by omega) (by omega) gt (fun v => v = .tuple #[.int .i64 (rT (t.takeWhile dig) (t.dropWhile dig) true).1, .int .i64 (rT (t.takeWhile dig) (t.dropWhile dig) true).2]) rfl x z hR
      clear hR
      generalize t.takeWhile dig = D at *
      generalize t.dropWhile dig = r at *
      obtain ⟨X, rfl, hX, hX2, sz2, hr, g, g1, hz, hd, hD⟩ := R
      refine outerR s _ _ 1 X D (fun v => v = .tuple #[.int .i64 (rT D r true).1, .int .i64 (rT D r true).2]) _ rfl rfl hX hX2 (by omega) g1 (fun hb => by rw [rT_bad (Or.inl hb)]) (fun hno => ?_)
      refine restT s _ z X (drF D) r true (fun v => v = .tuple #[.int .i64 (rT D r true).1, .int .i64 (rT D r true).2]) _ rfl hz hX2 sz2 hr hd g (fun hb => ?_) (fun a b q er da db a5 hq hq3 => ?_) (fun a b er da db a5 => ?_)
      · rw [rT_bad (Or.inr fun m' x' y' q' e => (hb m' x' y' q' e).imp id (fun h => ⟨h.1, h.2.imp id (fun h => h.imp id Or.inl)⟩))]
      · have n3 : ¬ ((45 : UInt8) ≠ 45 ∨ dig a = false ∨ dig b = false ∨ 53 < a.toNat) := by
          rintro (h | h | h | h)
          · exact h rfl
          · rw [da] at h; cases h
          · rw [db] at h; cases h
          · omega
        subst er
        have hda := dig_iff.mp da
        have hdb := dig_iff.mp db
        have ga := g 1 (by simp)
        have gb := g 2 (by simp)
        simp only [List.getElem_cons_zero, List.getElem_cons_succ] at ga gb
        simp only [List.length_cons] at sz2 hr
        have dr : (45 :: a :: b :: 46 :: q).drop 4 = q := rfl
        rw [dr]
        refine loopR s q _ _ z (X + 4) (10 * (a.toNat - 48) + (b.toNat - 48)) (drF D) true (fun v => v = .tuple #[.int .i64 (rT D (45 :: a :: b :: 46 :: q) true).1, .int .i64 (rT D (45 :: a :: b :: 46 :: q) true).2]) _ rfl (W4 X hX2) (mE X a b hX2 ga gb da db) hz (by omega) (by omega) hq3 (by omega) hd (fun k hk => ?_) (fun hb => ?_) (fun hb => ?_)
        · have := g (k + 4) (by simp only [List.length_cons]; omega)
          rw [show X + 4 + k = X + (k + 4) by omega, this]
          rfl
        · rw [rT_bad (Or.inr fun m' x' y' q' e => by
            simp only [List.cons.injEq] at e
            obtain ⟨rfl, rfl, rfl, rfl⟩ := e
            exact Or.inr ⟨by simp, Or.inr (Or.inr (Or.inr hb))⟩)]
        · have ln : q.length ≠ 0 := fun h => hq (List.eq_nil_of_length_eq_zero h)
          rw [rT_good hno n3 (by
            rintro ⟨-, h | h | h | h⟩
            · exact h rfl
            · exact ln (by simpa using h)
            · simp at h; omega
            · rw [show (46 :: q).drop 1 = q from rfl, hb] at h; cases h), ← (drF_tail D hD _ _ true).2]
          rfl
      · have n3 : ¬ ((45 : UInt8) ≠ 45 ∨ dig a = false ∨ dig b = false ∨ 53 < a.toNat) := by
          rintro (h | h | h | h)
          · exact h rfl
          · rw [da] at h; cases h
          · rw [db] at h; cases h
          · omega
        rw [er, rT_good hno n3 (by rintro ⟨h, -⟩; exact h rfl), ← (drF_tail D hD _ _ true).2]
        rfl
    · have nb : (45 == c) = false := by rw [beq_eq_false_iff_ne]; exact fun e => hc e.symm
      have en : neg (c :: t) = false := by unfold neg Lib.hasPrefix; simp [List.isPrefixOf, nb]
      have eb : body (c :: t) = c :: t := by
        have en' := en
        unfold neg at en'
        unfold body Lib.trimPrefix
        rw [en']; rfl
      rw [eb, en]
      refine bcase_iff.mpr ⟨fun q => absurd (eq_of_beq q) (fun e => hc (by rw [g0] at e; exact UInt8.toNat_inj.mp (by show c.toNat = 45; omega))), fun _ => ?_⟩
      have gt : ∀ k (hk : k < (c :: t).length), s.get! (0 + k) = (c :: t)[k] := fun k hk => by rw [Nat.zero_add]; exact gs k hk
      refine ⟨fun ⟨x, z⟩ hR => ?_, loop1 s (c :: t) _ 0 _ rfl rfl (by omega) (by simp only [List.length_cons]; omega) (by simp only [List.length_cons]; omega) gt⟩
      dsimp only at hR ⊢
      have R := rest 0 (c :: t) false (by omega) (by simp only [List.length_cons]; omega) (by simp only [List.length_cons]; omega) gt (fun v => v = .tuple #[.int .i64 (rT ((c :: t).takeWhile dig) ((c :: t).dropWhile dig) false).1, .int .i64 (rT ((c :: t).takeWhile dig) ((c :: t).dropWhile dig) false).2]) rfl x z hR
      clear hR
      generalize (c :: t).takeWhile dig = D at *
      generalize (c :: t).dropWhile dig = r at *
      obtain ⟨X, rfl, hX, hX2, sz2, hr, g, g1, hz, hd, hD⟩ := R
      refine outerR s _ _ 0 X D (fun v => v = .tuple #[.int .i64 (rT D r false).1, .int .i64 (rT D r false).2]) _ rfl rfl hX hX2 (by omega) g1 (fun hb => by rw [rT_bad (Or.inl hb)]) (fun hno => ?_)
      refine restT s _ z X (drF D) r false (fun v => v = .tuple #[.int .i64 (rT D r false).1, .int .i64 (rT D r false).2]) _ rfl hz hX2 sz2 hr hd g (fun hb => ?_) (fun a b q er da db a5 hq hq3 => ?_) (fun a b er da db a5 => ?_)
      · rw [rT_bad (Or.inr fun m' x' y' q' e => (hb m' x' y' q' e).imp id (fun h => ⟨h.1, h.2.imp id (fun h => h.imp id Or.inl)⟩))]
      · have n3 : ¬ ((45 : UInt8) ≠ 45 ∨ dig a = false ∨ dig b = false ∨ 53 < a.toNat) := by
          rintro (h | h | h | h)
          · exact h rfl
          · rw [da] at h; cases h
          · rw [db] at h; cases h
          · omega
        subst er
        have hda := dig_iff.mp da
        have hdb := dig_iff.mp db
        have ga := g 1 (by simp)
        have gb := g 2 (by simp)
        simp only [List.getElem_cons_zero, List.getElem_cons_succ] at ga gb
        simp only [List.length_cons] at sz2 hr
        have dr : (45 :: a :: b :: 46 :: q).drop 4 = q := rfl
        rw [dr]
        refine loopR s q _ _ z (X + 4) (10 * (a.toNat - 48) + (b.toNat - 48)) (drF D) false (fun v => v = .tuple #[.int .i64 (rT D (45 :: a :: b :: 46 :: q) false).1, .int .i64 (rT D (45 :: a :: b :: 46 :: q) false).2]) _ rfl (W4 X hX2) (mE X a b hX2 ga gb da db) hz (by omega) (by omega) hq3 (by omega) hd (fun k hk => ?_) (fun hb => ?_) (fun hb => ?_)
        · have := g (k + 4) (by simp only [List.length_cons]; omega)
          rw [show X + 4 + k = X + (k + 4) by omega, this]
          rfl
        · rw [rT_bad (Or.inr fun m' x' y' q' e => by
            simp only [List.cons.injEq] at e
            obtain ⟨rfl, rfl, rfl, rfl⟩ := e
            exact Or.inr ⟨by simp, Or.inr (Or.inr (Or.inr hb))⟩)]
        · have ln : q.length ≠ 0 := fun h => hq (List.eq_nil_of_length_eq_zero h)
          rw [rT_good hno n3 (by
            rintro ⟨-, h | h | h | h⟩
            · exact h rfl
            · exact ln (by simpa using h)
            · simp at h; omega
            · rw [show (46 :: q).drop 1 = q from rfl, hb] at h; cases h), ← (drF_tail D hD _ _ false).2]
          rfl
      · have n3 : ¬ ((45 : UInt8) ≠ 45 ∨ dig a = false ∨ dig b = false ∨ 53 < a.toNat) := by
          rintro (h | h | h | h)
          · exact h rfl
          · rw [da] at h; cases h
          · rw [db] at h; cases h
          · omega
        rw [er, rT_good hno n3 (by rintro ⟨h, -⟩; exact h rfl), ← (drF_tail D hD _ _ false).2]
        rfl
end
end Go.Proofs.YtkcelhhhbbpbpaaDoor
