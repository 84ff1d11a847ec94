/- Contract: the program's reading of a text of an instrument. -/
import Derived.Test.YtkcelhhhbbpbpaaDoorInG
import Derived.Test.YtkcelhhhbbpbpaaDoorInHV
import Derived.Test.YtkcelhhhbbpbpaaDoorRfL
import Derived.OwnWalkIn
import Derived.TacticsInMore
import Derived.RangeFuncLeaves
namespace Go.Proofs.YtkcelhhhbbpbpaaDoor
open Go Go.Abs Go.RowKit Go.Rf
set_option linter.unusedVariables false
set_option linter.unusedSimpArgs false
theorem hC_eq : hC = .seq hR0 (.seq hR1 (.seq hR2 (.seq (.seq hR3 (.block 0 hRf)) hC2))) := by kernel_rfl
theorem hRf_eq : hRf = .rangeFunc (.tmp 14) #[15] (rfAs hRf) hBo := by kernel_rfl
theorem hAs_eq : rfAs hRf = .region (idC (rfAs hRf)) #[⟨some 7, .assign (.tmp 15), (opC (rfAs hRf)).type, (opC (rfAs hRf)).pos, #[], none⟩] false := by kernel_rfl
theorem hBo_quiet : quietC hBo = true := by kernel_rfl
theorem suf_in (h : List UInt8) : Lib.hasSuffix (h ++ [10]) [10] = true ∧ Lib.trimSuffix (h ++ [10]) [10] = h := by
  have e : Lib.hasSuffix (h ++ [10]) [10] = true := by
    unfold Lib.hasSuffix
    simp
  refine ⟨e, ?_⟩
  unfold Lib.trimSuffix
  rw [if_pos e]
  simp
theorem suf_out {r : List UInt8} (h : 10 ∉ r) : Lib.hasSuffix r [10] = false := by
  unfold Lib.hasSuffix
  cases hs : List.isSuffixOf [10] r with
  | false => rfl
  | true =>
    rw [List.isSuffixOf_iff_suffix] at hs
    exact absurd (hs.subset (by simp)) h
theorem ln1_in (h : List UInt8) : ln1 (h ++ [10]) = (idxL h).map fun n => [n] := by
  unfold ln1
  rw [if_pos (suf_in h).1, (suf_in h).2]
theorem ln2_in (h : List UInt8) : ln2 (h ++ [10]) = (entL h).map fun e => [e.1, e.2] := by
  unfold ln2
  rw [if_pos (suf_in h).1, (suf_in h).2]
theorem ln1_out {r : List UInt8} (h : 10 ∉ r) : ln1 r = none := by unfold ln1; rw [if_neg (by rw [suf_out h]; decide)]
theorem ln2_out {r : List UInt8} (h : 10 ∉ r) : ln2 r = none := by unfold ln2; rw [if_neg (by rw [suf_out h]; decide)]
def lrB (x : ByteArray) (n : Int) : List Int := if n = 1 then (ln1 x.data.toList).getD [] else (ln2 x.data.toList).getD []
def loL (x : ByteArray) (n : Int) : Bool := if n = 1 then (ln1 x.data.toList).isSome else (ln2 x.data.toList).isSome
theorem s_Hs : Sound Tryd.prog VT (ΓHs lrB loL) :=
  Sound.rcons (by kernel_rfl) (fun ads p rds h hp => by
    split at h <;> cases h
    obtain ⟨h1, ⟨rfl, rfl⟩ | ⟨rfl, rfl⟩⟩ := hp
    · exact r_line1 _ h1
    · exact r_line2 _ h1) Sound.nil
theorem s_He : Sound Tryd.prog VT (ΓHe vldB) :=
  Sound.rcons (by kernel_rfl) (fun ads p rds h hp => by split at h <;> cases h; exact r_valid _ _) Sound.nil
/-- What holds between two lines. -/
structure SIn (L : List UInt8) (pre : List ByteArray) (s : HSt) : Prop where
  ln : s.ln = pre.length + 1
  nt : s.xs.length ≤ pre.length
  rest : ∃ r, linesL L = pre ++ linesL r ∧ pre.length + r.length ≤ L.length ∧ (pre = [] → r = L ∧ s.k = 0 ∧ s.xs = []) ∧ (pre ≠ [] → 10 ∈ L ∧ idxL (lnH L) = some s.k ∧ pEL r s.xs s.ln = pEL (lnT L) [] 2)
def SXn (L : List UInt8) (pre : List ByteArray) (ln : Nat) : Prop := pI L = (0, [], ln, 7) ∧ ln ≠ 0
theorem line_next {L r : List UInt8} {pre : List ByteArray} {x : ByteArray} (h : linesL L = pre ++ linesL r) (hp : pre ++ [x] <+: linesL L) :
    r ≠ [] ∧ ((10 ∈ r ∧ x = ⟨(lnH r ++ [10]).toArray⟩ ∧ linesL L = (pre ++ [x]) ++ linesL (lnT r)) ∨ (10 ∉ r ∧ x = ⟨r.toArray⟩ ∧ linesL L = (pre ++ [x]) ++ linesL [])) := by
  obtain ⟨t, ht⟩ := hp
  have e : linesL r = x :: t := by
    have : pre ++ linesL r = pre ++ (x :: t) := by rw [← h, ← ht]; simp
    exact List.append_cancel_left this
  have h0 : r ≠ [] := by rintro rfl; rw [linesL_nil] at e; cases e
  refine ⟨h0, ?_⟩
  by_cases h10 : 10 ∈ r
  · rw [linesL_in h10] at e
    obtain ⟨e1, e2⟩ := List.cons.inj e
    refine .inl ⟨h10, e1.symm, ?_⟩
    rw [h, linesL_in h10, e1]; simp
  · rw [linesL_out h0 h10] at e
    obtain ⟨e1, e2⟩ := List.cons.inj e
    refine .inr ⟨h10, e1.symm, ?_⟩
    rw [h, linesL_out h0 h10, e1, linesL_nil]; simp
theorem lnH_len {r : List UInt8} (h : 10 ∈ r) : (lnH r).length + 1 + (lnT r).length = r.length := (ln_drop h).2
theorem h_body (L : List UInt8) (hL : L.length ≤ 4000) (pre : List ByteArray) (x : ByteArray) (s : HSt) (u : ByteArray) (hs : SIn L pre s) (hp : pre ++ [x] <+: linesL L) :
    codeX Tryd.prog (ΓHs lrB loL) noInl [] 0 hBo ⟨tmB x, hpI s u⟩ (bodyK 6 tmN (fun s => hpI s u) (fun t => hpX t u) (SIn L (pre ++ [x])) (SXn L (pre ++ [x]))) := by
  obtain ⟨k, xs, ln⟩ := s
  rw [vc_hBody]
  obtain ⟨e1, e2, r, e3, e4, e5, e6⟩ := hs
  dsimp only at *
  obtain ⟨r0, hw⟩ := line_next e3 hp
  have hsl : SL x := by
    unfold SL
    rcases hw with ⟨h10, rfl, _⟩ | ⟨h10, rfl, _⟩
    · have := lnH_len h10
      show (lnH r ++ [10]).length ≤ 4000
      rw [List.length_append, List.length_singleton]
      omega
    · show r.length ≤ 4000
      omega
  have w1 : IntKind.i64.wrap ((ln : Int) + 1) = ((ln + 1 : Nat) : Int) := by rw [wrap_in (by omega)]; rfl
  rw [w1]
  have pl : (pre ++ [x]).length = pre.length + 1 := by simp
  have pn : pre ++ [x] ≠ [] := by simp
  have bad : ∀ {P : Prop}, pI L = (0, [], ln, 7) → (∃ (s : Nat), (Int.ofNat 0 = 0 ∧ Value.slice none 0 0 = Value.slice none 0 0 ∧ (ln : Int) = (s : Int) ∧ Int.ofNat 1 = 1 ∧ Int.ofNat 7 = 7 ∧ u = u ∧ True) ∧ SXn L (pre ++ [x]) s) :=
    fun {P} h => ⟨ln, ⟨rfl, rfl, rfl, rfl, rfl, rfl, trivial⟩, h, by omega⟩
  refine bcase_iff.mpr ⟨fun q => ?_, fun q => ?_⟩
  · have q : ln = 1 := by have := eq_of_beq q; omega
    have p0 : pre = [] := List.eq_nil_of_length_eq_zero (by omega)
    obtain ⟨rfl, rfl, rfl⟩ := e5 p0
    refine ⟨⟨hsl, .inl ⟨rfl, rfl⟩⟩, ?_⟩
    have elo : loL x 1 = (ln1 x.data.toList).isSome := rfl
    have elr : lrB x 1 = (ln1 x.data.toList).getD [] := rfl
    rw [elo, elr]
    rcases hw with ⟨h10, rfl, ht⟩ | ⟨h10, rfl, ht⟩
    · have ex : ln1 (ByteArray.mk (lnH r ++ [10]).toArray).data.toList = (idxL (lnH r)).map fun n => [n] := ln1_in _
      rw [ex]
      cases hi : idxL (lnH r) with
      | none => exact bT rfl (bad (P := True) (by rw [pI_idx h10 hi, q]))
      | some k =>
        have := lnH_len h10
        refine bF rfl (bT (by kernel_rfl) (bT (by kernel_rfl) ⟨⟨k, [], ln + 1⟩, ⟨rfl, rfl, rfl, rfl, rfl, rfl, rfl, rfl, rfl, rfl, rfl, trivial⟩, ⟨by show ln + 1 = _; rw [pl]; omega, Nat.zero_le _, lnT r, ht, by rw [pl]; omega, fun e => absurd e pn, fun _ => ⟨h10, hi, ?_⟩⟩⟩))
        show pEL (lnT r) [] (ln + 1) = _
        rw [q]
    · have ex : ln1 (ByteArray.mk r.toArray).data.toList = none := ln1_out h10
      rw [ex]
      exact bT rfl (bad (P := True) (by rw [pI_no h10, q]))
  · have q : ln ≠ 1 := by have := ne_of_beq_false q; omega
    have p0 : pre ≠ [] := fun e => q (by rw [e1, e]; rfl)
    obtain ⟨g1, g2, g3⟩ := e6 p0
    refine ⟨⟨hsl, .inr ⟨rfl, rfl⟩⟩, ?_⟩
    have elo : loL x 2 = (ln2 x.data.toList).isSome := rfl
    have elr : lrB x 2 = (ln2 x.data.toList).getD [] := rfl
    rw [elo, elr]
    rcases hw with ⟨h10, rfl, ht⟩ | ⟨h10, rfl, ht⟩
    · have ex : ln2 (ByteArray.mk (lnH r ++ [10]).toArray).data.toList = (entL (lnH r)).map fun e => [e.1, e.2] := ln2_in _
      rw [ex]
      cases hi : entL (lnH r) with
      | none =>
        rw [pEL_bad h10 hi] at g3
        exact bT rfl (bad (P := True) (pI_ent g1 g2 g3.symm))
      | some e =>
        have := lnH_len h10
        rw [pEL_step h10 hi] at g3
        refine bF rfl (bT (by kernel_rfl) (bT (by kernel_rfl) (bT (by kernel_rfl) (bT (by kernel_rfl) ⟨rfl, bT (cap_ok (by omega)) ⟨⟨k, xs ++ [e], ln + 1⟩, ⟨rfl, rfl, rfl, rfl, rfl, rfl, by simp, by omega, rfl, rfl, rfl, rfl, trivial⟩, ⟨by show ln + 1 = _; rw [pl]; omega, by show (xs ++ [e]).length ≤ _; rw [pl, List.length_append, List.length_singleton]; omega, lnT r, ht, by rw [pl]; omega, fun e => absurd e pn, fun _ => ⟨g1, g2, g3⟩⟩⟩⟩))))
    · have ex : ln2 (ByteArray.mk r.toArray).data.toList = none := ln2_out h10
      rw [ex]
      rw [pEL_no r0 h10] at g3
      exact bT rfl (bad (P := True) (pI_ent g1 g2 g3.symm))
theorem linesL_empty {r : List UInt8} (h : linesL r = []) : r = [] := by
  apply Classical.byContradiction
  intro h0
  by_cases h10 : 10 ∈ r
  · rw [linesL_in h10] at h; cases h
  · rw [linesL_out h0 h10] at h; cases h
def posC (n : Nat) : Int := if n = 0 then 0 else 1
abbrev rdsH (L : List UInt8) : List AD := [insA (pI L).1 (pI L).2.1, .one (.v (posV ((pI L).2.2.1 : Int) (posC (pI L).2.2.1))), .one (.v (num (pI L).2.2.2))]
theorem h_end (s : ByteArray) (st : HSt) (u : ByteArray) (hs : SIn s.data.toList (linesL s.data.toList) st) :
    codeX Tryd.prog (ΓHe vldB) noInl [] 0 hC2 ⟨tmA, hpI st u⟩ (endK Tryd.prog Tryd.f10 (retK [.v (.string s)] (rdsH s.data.toList))) := by
  obtain ⟨k, xs, ln⟩ := st
  rw [vc_hEnd]
  generalize s.data.toList = L at *
  obtain ⟨e1, e2, r, e3, e4, e5, e6⟩ := hs
  dsimp only at *
  have hr : r = [] := linesL_empty (by
    have : linesL L ++ [] = linesL L ++ linesL r := by rw [List.append_nil]; exact e3
    exact (List.append_cancel_left this).symm)
  subst hr
  have out : ∀ {k t n e}, pI L = (k, t, n, e) → ∀ {k' : Int} {t' : List (Int × Int)} {n' c' e' : Int}, k' = k → t' = t → n' = (n : Int) → c' = posC n → e' = e → (Value.int .i64 k' = Value.int .i64 (pI L).1 ∧ t' = (pI L).2.1 ∧ Value.agg #[Value.int .i64 n', Value.int .i64 c'] = Value.agg #[Value.int .i64 ((pI L).2.2.1 : Int), Value.int .i64 (posC (pI L).2.2.1)] ∧ Value.int .i64 e' = Value.int .i64 (pI L).2.2.2 ∧ True) := fun {k t n e} hp {k' t' n' c' e'} h1 h2 h3 h4 h5 => by
    rw [hp]; subst h1 h2 h3 h4 h5; exact ⟨rfl, rfl, rfl, rfl, trivial⟩
  refine bcase_iff.mpr ⟨fun q => ?_, fun q => ?_⟩
  · have q : ln = 1 := by have := eq_of_beq q; omega
    have p0 : linesL L = [] := List.eq_nil_of_length_eq_zero (by omega)
    have := linesL_empty p0
    subst this
    exact out (pI_no (by simp)) rfl rfl (by rw [q]) rfl rfl
  · have q : ln ≠ 1 := by have := ne_of_beq_false q; omega
    have p0 : linesL L ≠ [] := fun e => q (by rw [e1, e]; rfl)
    obtain ⟨g1, g2, g3⟩ := e6 p0
    rw [pEL_nil] at g3
    have hp := pI_end g1 g2 g3.symm
    refine ⟨rfl, fun z hz => ⟨trivial, ?_⟩⟩
    rw [hz]
    refine bcase_iff.mpr ⟨fun v => ?_, fun v => ?_⟩
    · have v : ¬ Valid18 k xs := by
        have : vldB k xs = false := by simpa using v
        exact of_decide_eq_false this
      rw [if_neg v] at hp
      exact out hp rfl rfl rfl rfl rfl
    · have v : Valid18 k xs := by
        have : vldB k xs = true := by simpa using v
        exact of_decide_eq_true this
      rw [if_pos v] at hp
      obtain ⟨o1, o2, o3, o4, o5⟩ := out hp (k' := k) (t' := xs) (n' := 0) (c' := 0) (e' := 0) rfl rfl rfl rfl rfl
      exact ⟨o1, rfl, o2, o3, o4, trivial⟩
theorem h_stop (s : ByteArray) (pre : List ByteArray) (ln : Nat) (u : ByteArray) (h : SXn s.data.toList pre ln) : endK Tryd.prog Tryd.f10 (retK [.v (.string s)] (rdsH s.data.toList)) .ret ⟨tmA, hpX ln u⟩ := by
  rw [vc_hStop]
  obtain ⟨h, h0⟩ := h
  rw [h]
  exact ⟨rfl, rfl, by unfold posC; rw [if_neg h0], rfl, trivial⟩
theorem bx_of (s : ByteArray) : bx s.data.toList = s := rfl
set_option maxRecDepth 10000 in
theorem r_insParse (s : ByteArray) (h : SL s) : RAns Tryd.prog VT 10 [.one (.v (.string s))] (rdsH s.data.toList) := by
  intro w vs cells hw h1 h2
  obtain ⟨rfl, rfl⟩ : vs = [.string s] ∧ cells = [.string s] := by
    match vs, h1 with
    | [v], h1 =>
      obtain ⟨cs, rfl, h3⟩ := h1
      have h3 : cs = [] := h3
      subst h3
      have h4 : v = .string s := h2.1
      subst h4
      exact ⟨rfl, rfl⟩
  refine callsIn_wide.1 ((callsIn_of_wp_marks (F := Fence.wide) (n := 8) (fn := Tryd.f10) (c := hC) Tryd.func10 (by kernel_rfl) trivial (R := endR w (retK [.v (.string s)] (rdsH s.data.toList))) ?_ rfl).mono ?_)
  · rw [hC_eq]
    have hRel0 : Rel w.heap.size w (fun _ => none) (hpF []) w := ⟨Below.refl _ _, Nat.le_refl _, fun _ _ => rfl, fun i j b x y hi => (by cases hi), fun k b x hk => (by cases hk), fun k x hx => (by simp [hpF] at hx), KeepsOthers.refl _⟩
    have hT0 : RT (fun _ => none) ([.v (.string s)] ++ repl (nTm - 1)) (([Value.string s].toArray ++ Array.replicate (Tryd.f10.ntmps - [Value.string s].toArray.size) undef)) := RT.enter (RL.vals [.string s]) Tryd.f10.ntmps
    have hpre := vc_hPre s
    have hi := runX_sound (P := Tryd.prog) (B := w.heap.size) (w0 := w) (Γ := []) Sound.nil (fun w' h1 _ => st_vt _ _ hw h1) (A := noAnn) 3
    have hK : ∀ e st, e ≠ Abs.X.normal → ¬ (Abs.X.casesOn e (stLeR 0 st ⟨tmA, hpI ⟨0, [], 1⟩ s⟩) (fun _ => False) False : Prop) := fun e st q => by
      cases e with
      | normal => exact absurd rfl q
      | ret => exact id
      | exit i => exact id
    have hpre : codeX Tryd.prog [] (runX Tryd.prog [] noAnn 3) [] 0 (.seq hR0 (.seq hR1 (.seq hR2 hR3))) ⟨[.v (.string s)] ++ repl (nTm - 1), []⟩ (fun e st => Abs.X.casesOn e (stLeR 0 st ⟨tmA, hpI ⟨0, [], 1⟩ s⟩) (fun _ => False) False) := by
      rw [hpre]
      exact ⟨⟨rfl, rfl⟩, rfl, rfl, rfl, rfl, rfl, rfl, rfl, rfl, rfl, rfl, rfl, trivial⟩
    have hRel1 : Rel w.heap.size w (fun _ => none) (hpF (AS.mk ([.v (.string s)] ++ repl (nTm - 1)) []).hp) w := hRel0
    refine wpIn_seq (pre_seq (st := ⟨[.v (.string s)] ++ repl (nTm - 1), []⟩) st_vt Sound.nil hi hw hT0 (Eq.refl _) hRel1 hpre hK ?_)
    intro st1 a1 w1 ρ1 hT1 hd1 hR1 h1
    refine wpIn_seq (pre_seq st_vt Sound.nil hi hw hT1 hd1 hR1 h1 hK ?_)
    intro st2 a2 w2 ρ2 hT2 hd2 hR2 h2
    refine wpIn_seq (pre_seq st_vt Sound.nil hi hw hT2 hd2 hR2 h2 hK ?_)
    intro st3 a3 w3 ρ3 hT3 hd3 hR3 h3
    refine wpIn_seq (wpIn_seq (pre_last st_vt Sound.nil hi hw hT3 hd3 hR3 h3 hK ?_))
    intro st4 a w4 ρ4 hT4 hd4 hR4 h4
    have h4 : stLeR 0 st4 ⟨tmA, hpI ⟨0, [], 1⟩ s⟩ := h4
    obtain ⟨ρ5, _, hT5, hR5⟩ := stLeR_rel (hp0 := []) (ρ0 := fun _ => none) (fun _ _ => rfl) (fun _ _ e => by cases e) hT4 hR4 h4 rfl
    refine wpIn_block ?_
    rw [hRf_eq]
    have e6 : ∀ k, k < 6 → nget [0, 1, 2, 3, 4, 5] k = k := fun k hk => by
      match k, hk with
      | 0, _ | 1, _ | 2, _ | 3, _ | 4, _ | 5, _ => rfl
    have hlies : ∀ k, k < 6 → ∃ n, ρ5 k = some n := fun k hk => by
      obtain ⟨b, hb⟩ : ∃ b, (hpI ⟨0, [], 1⟩ s)[k]? = some b := ⟨_, List.getElem?_eq_getElem (by show k < 8; omega)⟩
      exact hR5.lies k b hb
    obtain ⟨ρ6, hρ6⟩ : ∃ ρ6, ρ6 = ren [0, 1, 2, 3, 4, 5] ρ5 := ⟨_, rfl⟩
    have hT6 : RT ρ6 tmA a.tmps := by
      rw [hρ6]
      exact hT5.lessR (by rw [tmLe_A]; simp only [true_and, and_self]) (by kernel_rfl)
    have hdom6 : ∀ k, 6 ≤ k → ρ6 k = none := fun k hk => by
      rw [hρ6]; unfold ren; rw [if_neg (by show ¬ k < 6; omega)]
    have hE6 : Ext ρ6 ρ5 := fun k n e => by
      by_cases hk : k < 6
      · obtain ⟨m, hm⟩ := hlies k hk
        rw [hρ6, ren_get (rn := [0, 1, 2, 3, 4, 5]) hk (by rw [e6 k hk]; exact hm)] at e
        rw [hm]; exact e
      · rw [hdom6 k (by omega)] at e; cases e
    obtain ⟨c0, hc0⟩ := hlies 5 (by omega)
    have hkb : ρ6 5 = some c0 := by rw [hρ6]; exact ren_get (rn := [0, 1, 2, 3, 4, 5]) (by decide) (by rw [e6 5 (by omega)]; exact hc0)
    have hg : a.eval (.tmp 14) = .func (.func 33) #[] #[.pointer (some ⟨c0, 0, none⟩)] := by
      have := hT6.2 14
      have e14 : lget tmA 14 = .c 33 [(5, 0)] := by kernel_rfl
      rw [e14] at this
      obtain ⟨l, h1, h2⟩ := this
      unfold ptrs ptrs at h1
      rw [hkb] at h1
      cases h1
      exact h2
    have hbox := hR5.box (k := 5) hc0 (H := hpF (hpI ⟨0, [], 1⟩ s)) rfl
    refine rf_go (σ := HSt) (τ := Nat) st_vt s_Hs (n := 8) (by omega) hw (m := 6) hdom6 hg (enters_of Tryd.func33 (by kernel_rfl) rfl) (encs := fun x : ByteArray => #[.string x]) (fun _ => rfl) (c0 := c0) (kb := 5) (T := 9) hkb (Kp := KpC c0)
      (S := fun xs => xs = linesL s.data.toList) (Sp := fun pre => pre <+: linesL s.data.toList) (N := (linesL s.data.toList).length)
      (lines_stops 7 (by omega) c0 s.data.toList w4 (by have : s.data.toList.length ≤ 4000 := h; omega) hbox.1 hbox.2 (hR5.lt (k := 5) hc0 (b := own1 9 [.v (.string s)]) rfl (Blk.live_of rfl rfl)))
      (fun h1 h2 => ⟨h2.1.trans h1.1, h2.2.trans h1.2⟩) (fun W1 l o o' hl _ _ _ => ?_) (fun h1 h2 => ⟨h2.1.trans h1.1.symm, h2.2.trans h1.2.symm⟩) (hpI := hpI) (hpX := hpX) (fun _ _ => rfl) (fun _ _ _ => rfl) (fun _ _ => rfl) (fun _ _ _ => rfl)
      (SIn s.data.toList) (SXn s.data.toList) (s0 := ⟨0, [], 1⟩) (u0 := s) (ρ0 := ρ5) ⟨rfl, Nat.zero_le _, s.data.toList, rfl, by simp, fun _ => ⟨rfl, rfl, rfl⟩, fun e => absurd rfl e⟩ hE6 hR5
      (fun x => { tmps := (a.tmps.setIfInBounds 15 (.string x)).setIfInBounds 7 (.string x), defers := [] }) tmB (fun x => ?_) (fun _ => rfl) ?_ hBo_quiet tmN (fun _ _ => rfl) (fun _ _ => rfl) ?_ ?_ ?_
    · have : c0 ≠ l := by
        have := hR5.lt (k := 5) hc0 (b := own1 9 [.v (.string s)]) rfl (Blk.live_of rfl rfl)
        omega
      exact ⟨World.cell?_of_block (World.putObj_heap_other this), World.frozen?_of_block (World.putObj_heap_other this)⟩
    · exact (hT6.dput (a := ⟨a.tmps, []⟩) (some 15) (x := .v (.string x)) (v := .string x) rfl).dput (some 7) (x := .v (.string x)) (v := .string x) rfl
    · intro l x W K hK'
      rw [hAs_eq]
      generalize (opC (rfAs hRf)).type = ty
      generalize (opC (rfAs hRf)).pos = po
      generalize idC (rfAs hRf) = id
      have e15 : ((a.tmps.setIfInBounds 15 (.string x)).getD 15 undef) = .string x := by
        have := ((hT6.dput (a := ⟨a.tmps, []⟩) (some 15) (x := .v (.string x)) (v := .string x) rfl)).2 15
        exact this
      have ef : (#[15].zip #[Value.string x]).foldl (fun (t : Array Value) (x : Nat × Value) => match x with | (p, v) => t.setIfInBounds p v) a.tmps = a.tmps.setIfInBounds 15 (.string x) := by simp
      rw [ef]
      refine wpIn_region ?_
      refine ⟨fun _ _ => trivial, ?_⟩
      rw [Oper.semAt_eq _ _ _ (noDefer_ne rfl)]
      show K ⟨(a.tmps.setIfInBounds 15 (.string x)).setIfInBounds 7 ((a.tmps.setIfInBounds 15 (.string x)).getD 15 undef), []⟩ W
      rw [e15]
      exact hK'
    · intro pre x s1 u hs1 hlt hsp
      exact h_body s.data.toList h pre x s1 u hs1 hsp
    · rintro D xs s1 u ρ W1 rfl hs1 hE hR hD hK'
      exact rf_c2 st_vt s_He hw hR (hT6.mono hE) (by rw [hd4]) hD hK' (h_end s s1 u hs1)
    · rintro D pre t u ρ W1 hsp hs1 hE hR hD hK'
      exact rf_end (st := ⟨tmA, hpX t u⟩) hR (hT6.mono hE) (by rw [hd4]) hD hK' (h_stop s pre t u hs1)
  · rintro e w' ⟨ρ', hp', av, v, he, q2, q3, q4⟩
    obtain ⟨rvs, rcells, gs, r1, r2, r3, r4⟩ := retK_run (ρ0 := fun _ => none) (sts := [.v (.string s)]) (cells := [.string s]) q2 (fun _ _ e => by cases e) ⟨rfl, trivial⟩ q3 q4
    exact ⟨q2.below, rvs, rcells, gs, by rw [he, r1], r2, r3, r4⟩
end Go.Proofs.YtkcelhhhbbpbpaaDoor
