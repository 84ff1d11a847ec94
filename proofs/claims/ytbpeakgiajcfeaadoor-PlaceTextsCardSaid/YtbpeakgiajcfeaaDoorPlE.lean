/- Contracts: the reference's reading of texts of points; longitudes; printed places; the chapter's examples. -/
import Derived.Test.YtbpeakgiajcfeaaDoorPlD
import Derived.Test.YtbpeakgiajcfeaaDoorPlW
import Derived.Test.YtbpeakgiajcfeaaDoorPlY
namespace Go.Proofs.YtbpeakgiajcfeaaDoor
open Go Go.Abs Go.RowKit
set_option linter.unusedVariables false
set_option linter.unusedSimpArgs false
def rpV (s : ByteArray) (p m : Int) : Int := (prsN s.data.toList (UInt8.ofNat p.toNat) (UInt8.ofNat m.toNat)).1
def rpE (s : ByteArray) (p m : Int) : Int := (prsN s.data.toList (UInt8.ofNat p.toNat) (UInt8.ofNat m.toNat)).2
theorem byte_eq {x : UInt8} {p : Int} (h : 0 ≤ p ∧ p ≤ 255) : x = UInt8.ofNat p.toNat ↔ (x.toNat : Int) = p := by
  have e : (UInt8.ofNat p.toNat).toNat = p.toNat := by rw [UInt8.toNat_ofNat']; exact Nat.mod_eq_of_lt (by omega)
  constructor
  · intro q; rw [q, e]; omega
  · intro q; apply UInt8.toNat_inj.mp; rw [e]; omega
section
variable {Φ : World → Prop} (hst : ∀ w w', Φ w → Below w.heap.size w w' → Φ w')
include hst
theorem c_r8parsed (s : ByteArray) (p m : Int) (h : PmOk s p m) : Ans Tryd.prog Φ 22 [.string s, .int .u8 p, .int .u8 m] (.tuple #[.int .i64 (rpV s p m), .int .i64 (rpE s p m)]) := by
  refine fn_by hst (Sound.cons (by kernel_rfl) (fun args pr v h hp => by unfold sPar at h; split at h <;> cases h; exact c_r5parse hst _ hp) Sound.nil) (vc_r8parsed s p m parV parE _) ?_
  obtain ⟨h0, hp0, hp1, hm0, hm1, hpm⟩ := h
  unfold SL at h0
  have sz := Lib.size_eq s
  unfold rpV rpE
  generalize hl : s.data.toList = l at *
  have ne : ∀ {x}, l.getLast? = some x → (l.getLast? = some (UInt8.ofNat p.toNat) ↔ (x.toNat : Int) = p) ∧ (l.getLast? = some (UInt8.ofNat m.toNat) ↔ (x.toNat : Int) = m) := fun {x} hx => by
    rw [hx, Option.some.injEq, Option.some.injEq]
    exact ⟨byte_eq ⟨hp0, hp1⟩, byte_eq ⟨hm0, hm1⟩⟩
  refine bcase_iff.mpr ⟨fun c => ?_, fun c => ?_⟩
  · have c := of_decide_eq_true c
    have : prsN l (UInt8.ofNat p.toNat) (UInt8.ofNat m.toNat) = (0, 7) := by unfold prsN; rw [if_pos (Or.inl (by omega))]
    rw [this]
  · have c := of_decide_eq_false c
    have w1 : IntKind.i64.wrap ((s.size : Int) - 1) = ((l.length - 1 : Nat) : Int) := by rw [wrap_in (by omega)]; omega
    rw [w1]
    have hn0 : l.length ≠ 0 := by omega
    have hne : l ≠ [] := fun e => hn0 (by rw [e]; rfl)
    have hx : l.getLast? = some (l[l.length - 1]'(by omega)) := by rw [List.getLast?_eq_some_getLast hne, List.getLast_eq_getElem]
    have gx : s.get! ((l.length - 1 : Nat) : Int).toNat = l[l.length - 1]'(by omega) := by
      rw [Int.toNat_natCast, get_list (by rw [hl]; omega)]; simp only [hl]
    have g0 : s.get! 0 = l[0]'(by omega) := by rw [get_list (by rw [hl]; omega)]; simp only [hl]
    have hh : l.head? = some (l[0]'(by omega)) := by rw [List.head?_eq_getElem?, List.getElem?_eq_getElem (by omega)]
    have ib : inB ((l.length - 1 : Nat) : Int) s.size = true := inY (by omega) (by omega)
    have ib0 : inB 0 s.size = true := inY (by omega) (by omega)
    have ex : s.extract 0 ((l.length - 1 : Nat) : Int).toNat = ⟨l.dropLast.toArray⟩ := ext_list (by rw [ex_list, hl, Int.toNat_natCast, List.dropLast_eq_take]; rfl)
    have sl : SL (s.extract 0 ((l.length - 1 : Nat) : Int).toNat) := by
      rw [ex]; show l.dropLast.length ≤ 4000; rw [List.length_dropLast]; omega
    rw [show Int.toNat 0 = 0 from rfl, ib, ib0, gx, g0]
    obtain ⟨n1, n2⟩ := ne hx
    generalize l[l.length - 1]'(by omega) = x at *
    rw [bcase_true, bcase_true, bcase_true, bcase_true]
    have rest : ((x.toNat : Int) = p ∨ (x.toNat : Int) = m) → bcase (((l[0]'(by omega)).toNat : Int) == 45) (Value.tuple #[.int .i64 0, .int .i64 7] = Value.tuple #[.int .i64 (prsN l (UInt8.ofNat p.toNat) (UInt8.ofNat m.toNat)).1, .int .i64 (prsN l (UInt8.ofNat p.toNat) (UInt8.ofNat m.toNat)).2])
        (bcase (decide (0 ≤ 0) && (decide (0 ≤ ((l.length - 1 : Nat) : Int)) && decide (((l.length - 1 : Nat) : Int) ≤ (s.size : Int))))
          (SL (s.extract 0 ((l.length - 1 : Nat) : Int).toNat) ∧ bcase (parE (s.extract 0 ((l.length - 1 : Nat) : Int).toNat) == 5) (Value.tuple #[.int .i64 1099511627776, .int .i64 0] = Value.tuple #[.int .i64 (prsN l (UInt8.ofNat p.toNat) (UInt8.ofNat m.toNat)).1, .int .i64 (prsN l (UInt8.ofNat p.toNat) (UInt8.ofNat m.toNat)).2])
            (bcase ((x.toNat : Int) == m) (Value.tuple #[.int .i64 (IntKind.i64.wrap (0 - parV (s.extract 0 ((l.length - 1 : Nat) : Int).toNat))), .int .i64 (parE (s.extract 0 ((l.length - 1 : Nat) : Int).toNat))] = Value.tuple #[.int .i64 (prsN l (UInt8.ofNat p.toNat) (UInt8.ofNat m.toNat)).1, .int .i64 (prsN l (UInt8.ofNat p.toNat) (UInt8.ofNat m.toNat)).2])
              (Value.tuple #[.int .i64 (parV (s.extract 0 ((l.length - 1 : Nat) : Int).toNat)), .int .i64 (parE (s.extract 0 ((l.length - 1 : Nat) : Int).toNat))] = Value.tuple #[.int .i64 (prsN l (UInt8.ofNat p.toNat) (UInt8.ofNat m.toNat)).1, .int .i64 (prsN l (UInt8.ofNat p.toNat) (UInt8.ofNat m.toNat)).2]))) False) := fun hc => by
      by_cases h45 : l.head? = some 45
      · have e : prsN l (UInt8.ofNat p.toNat) (UInt8.ofNat m.toNat) = (0, 7) := by unfold prsN; rw [if_pos (Or.inr (Or.inr h45))]
        rw [hh, Option.some.injEq] at h45
        rw [e, h45]
        exact bT rfl rfl
      · have hlast : ¬ (l.length < 2 ∨ (l.getLast? ≠ some (UInt8.ofNat p.toNat) ∧ l.getLast? ≠ some (UInt8.ofNat m.toNat)) ∨ l.head? = some 45) := by
          rintro (q | ⟨q, q'⟩ | q)
          · omega
          · rcases hc with hc | hc
            · exact q (n1.mpr hc)
            · exact q' (n2.mpr hc)
          · exact h45 q
        refine bF ?_ (bT (by rw [decide_eq_true (by omega), decide_eq_true (by omega), decide_eq_true (by omega)]; rfl) ⟨sl, ?_⟩)
        · rw [beq_eq_false_iff_ne]
          intro q
          rw [hh, Option.some.injEq] at h45
          exact h45 (UInt8.toNat_inj.mp (by show _ = 45; omega))
        · have pv : parV (s.extract 0 ((l.length - 1 : Nat) : Int).toNat) = (parL l.dropLast).1 := by rw [ex]; rfl
          have pe : parE (s.extract 0 ((l.length - 1 : Nat) : Int).toNat) = (parL l.dropLast).2 := by rw [ex]; rfl
          have bd := parV_bd (s.extract 0 ((l.length - 1 : Nat) : Int).toNat)
          rw [pv] at bd
          rw [pv, pe]
          unfold prsN
          rw [if_neg hlast]
          refine bcase_iff.mpr ⟨fun q => ?_, fun q => ?_⟩
          · rw [if_pos (eq_of_beq q)]
          · rw [if_neg (fun e => by rw [e] at q; simp at q)]
            refine bcase_iff.mpr ⟨fun q2 => ?_, fun q2 => ?_⟩
            · rw [if_pos (n2.mpr (eq_of_beq q2)), wrap_in (by omega), Int.zero_sub]
            · rw [if_neg (fun e => by rw [n2.mp e] at q2; simp at q2)]
    refine bcase_iff.mpr ⟨fun q => bcase_iff.mpr ⟨fun q2 => ?_, fun q2 => rest (Or.inr (by simpa using q2))⟩, fun q => rest (Or.inl (by simpa using q))⟩
    have e : prsN l (UInt8.ofNat p.toNat) (UInt8.ofNat m.toNat) = (0, 7) := by
      unfold prsN
      rw [if_pos (Or.inr (Or.inl ⟨fun e => by rw [n1.mp e] at q; simp at q, fun e => by rw [n2.mp e] at q2; simp at q2⟩))]
    rw [e]
theorem c_r8Parse (s : ByteArray) (h : SL s) : Ans Tryd.prog Φ 11 [.string s] (.tuple #[.agg #[.int .i64 (paB s), .int .i64 (pbB s)], .int .i64 (peB s)]) := by
  refine fn_by hst (Sound.cons (by kernel_rfl) (fun args pr v h hp => by split at h <;> cases h; exact c_r8parsed hst _ _ _ hp) Sound.nil) (vc_r8Parse s s.data.toList rpV rpE _) ?_
  unfold SL at h
  have sz := Lib.size_eq s
  unfold paB pbB peB
  rw [pt_same]
  refine ⟨0, ⟨rfl, rfl, rfl, rfl, rfl, trivial⟩, ⟨Nat.zero_le _, by simp⟩, fun i ⟨hi, hno⟩ => ?_⟩
  have gl : ∀ (q : i < s.data.toList.length), s.get! (i : Int).toNat = s.data.toList[i] := fun q => by rw [Int.toNat_natCast, get_list q]
  have e1 : s.extract (Int.toNat 0) (i : Int).toNat = ⟨(s.data.toList.take i).toArray⟩ := ext_list (by rw [ex_list, Int.toNat_natCast]; rfl)
  have e1' : s.extract 0 (i : Int).toNat = ⟨(s.data.toList.take i).toArray⟩ := e1
  generalize hl : s.data.toList = l at *
  refine bcase_iff.mpr ⟨fun q => ?_, fun q => ?_⟩
  · have q := of_decide_eq_true q
    have q : i < l.length := by omega
    rw [inY (by omega) (by omega), bcase_true, gl q]
    refine bcase_iff.mpr ⟨fun c => ?_, fun c => ?_⟩
    · refine ⟨i + 1, ⟨rfl, rfl, by rw [wrap_in (by omega)]; rfl, rfl, rfl, trivial⟩, ⟨by omega, ?_⟩, by omega⟩
      rw [← List.take_append_getElem q]
      intro hm
      rcases List.mem_append.mp hm with hm | hm
      · exact hno hm
      · rw [← List.mem_singleton.mp hm] at c
        revert c; decide
    · have c : l[i] = 32 := by
        have : ((l[i]).toNat : Int) = 32 := by simpa using c
        exact UInt8.toNat_inj.mp (by show _ = 32; omega)
      have w1 : IntKind.i64.wrap ((i : Int) + 1) = ((i + 1 : Nat) : Int) := by rw [wrap_in (by omega)]; rfl
      have e2 : s.extract ((i + 1 : Nat) : Int).toNat (s.size : Int).toNat = ⟨(l.drop (i + 1)).toArray⟩ := ext_list (by rw [ex_list, hl, Int.toNat_natCast, Int.toNat_natCast, sz, List.take_length])
      rw [w1, e1, e1', e2]
      have sp : l = l.take i ++ 32 :: l.drop (i + 1) := by rw [← c, List.getElem_cons_drop, List.take_append_drop]
      obtain ⟨t1, t2⟩ := while_all (p := (· != 32)) (l := l.take i) (32 :: l.drop (i + 1)) (fun x hx => by
        have : x ≠ 32 := fun e => hno (by rw [← e]; exact hx)
        simpa using this) (fun c q e => by
        obtain ⟨rfl, -⟩ : 32 = c ∧ _ = q := by simpa using e
        decide)
      rw [← sp] at t1 t2
      have mem : 32 ∈ l := by rw [sp]; simp
      unfold ptR
      rw [if_neg (show ¬ ¬ 32 ∈ l by simpa using mem), t1, t2, show (32 :: l.drop (i + 1)).drop 1 = l.drop (i + 1) from rfl]
      have a1 : rpV ⟨(l.take i).toArray⟩ 78 83 = (prsN (l.take i) 78 83).1 := rfl
      have a2 : rpE ⟨(l.take i).toArray⟩ 78 83 = (prsN (l.take i) 78 83).2 := rfl
      have a3 : rpV ⟨(l.drop (i + 1)).toArray⟩ 69 87 = (prsN (l.drop (i + 1)) 69 87).1 := rfl
      have a4 : rpE ⟨(l.drop (i + 1)).toArray⟩ 69 87 = (prsN (l.drop (i + 1)) 69 87).2 := rfl
      rw [a1, a2, a3, a4]
      have s1 : SL ⟨(l.take i).toArray⟩ := by show (l.take i).length ≤ 4000; rw [List.length_take]; omega
      have s2 : SL ⟨(l.drop (i + 1)).toArray⟩ := by show (l.drop (i + 1)).length ≤ 4000; rw [List.length_drop]; omega
      generalize prsN (l.take i) 78 83 = x
      generalize prsN (l.drop (i + 1)) 69 87 = y
      obtain ⟨x1, x2⟩ := x
      obtain ⟨y1, y2⟩ := y
      dsimp only
      refine bF (by rw [beq_eq_false_iff_ne]; omega) (bT (by rw [decide_eq_true (by omega), decide_eq_true (by omega), decide_eq_true (by omega)]; rfl) ⟨⟨s1, by decide⟩, bT (by rw [decide_eq_true (by omega), decide_eq_true (by omega), decide_eq_true (by omega)]; rfl) ⟨⟨s2, by decide⟩, ?_⟩⟩)
      refine bcase_iff.mpr ⟨fun c1 => ?_, fun c1 => bcase_iff.mpr ⟨fun c2 => ?_, fun c2 => ?_⟩⟩
      · rw [if_pos (Or.inl (by simpa using c1))]
      · rw [if_pos (Or.inr (by simpa using c2))]
      · have c1 : x2 = 0 := by simpa using c1
        have c2 : y2 = 0 := by simpa using c2
        rw [if_neg (by rintro (h | h); exact h c1; exact h c2)]
        by_cases v : vPt x1 y1
        · rw [if_pos v]
          unfold vPt at v
          exact bT (decide_eq_true (by omega)) (bT (decide_eq_true (by omega)) (bT (decide_eq_true (by omega)) (bF (by rw [decide_eq_true (by omega)]; rfl) rfl)))
        · rw [if_neg v]
          refine bcase_iff.mpr ⟨fun c1 => bcase_iff.mpr ⟨fun c2 => bcase_iff.mpr ⟨fun c3 => bT ?_ rfl, fun _ => rfl⟩, fun _ => rfl⟩, fun _ => rfl⟩
          have c1 := of_decide_eq_true c1
          have c2 := of_decide_eq_true c2
          have c3 := of_decide_eq_true c3
          rw [decide_eq_false (by unfold vPt at v; omega)]; rfl
  · have q := of_decide_eq_false q
    have e : i = l.length := by omega
    rw [e, List.take_length] at hno
    unfold ptR
    rw [if_pos hno]
    exact bT (by rw [beq_iff_eq]; omega) rfl
end
end Go.Proofs.YtbpeakgiajcfeaaDoor
