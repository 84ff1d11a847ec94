/- Texts of numbers and intervals: the program's and the reference's. -/
import Derived.Test.YtobmbbmompoliaaCtP
namespace Go.Proofs.Ytobmbbmompoliaa
open Go Go.Abs Go.RowKit
set_option linter.unusedVariables false
set_option linter.unusedSimpArgs false
theorem mul_fits {n u : Int} (hn : Fits n) (hu : Unit u) : Fits (mulI n u) := by
  obtain ⟨n0, n1⟩ := hn
  obtain ⟨u0, u1⟩ := hu
  have q := ediv_bd (a := n) (b := u) u0 n0 n1 (by decide) (by decide)
  have e1 := Int.mul_ediv_add_emod n u
  have a1 := Int.emod_nonneg n (b := u) (by omega)
  have a2 := Int.emod_lt_of_pos n (b := u) (by omega)
  unfold mulI Fits
  split
  · by_cases c : n / u = 1152921504606846976
    · rw [c] at e1; omega
    · omega
  · omega
theorem fB_size {n k : Int} (h : FOk n k) : (fB n k).size ≤ 41 := by
  obtain ⟨⟨n0, n1⟩, k0, k1⟩ := h
  have := rem_len (m := n.natAbs) (k := k.toNat) (by omega) (by omega)
  rw [remR_near (by omega), Nat.sub_zero] at this
  unfold fB fL
  rw [size_mk, List.length_append]
  have : (if n < 0 then [45] else [] : List UInt8).length ≤ 1 := by split <;> simp
  omega
theorem erP_eq (lo hi u k : Int) : erP lo hi u k = if okR lo hi u then (if Dg9 k then 0 else 2) else erR lo hi u := rfl
theorem p10_cap : ∀ s : Nat, s < 10 → 1 ≤ p10 s ∧ p10 s ≤ 1000000000 := by
  intro s h
  rcases (by omega : s = 0 ∨ s = 1 ∨ s = 2 ∨ s = 3 ∨ s = 4 ∨ s = 5 ∨ s = 6 ∨ s = 7 ∨ s = 8 ∨ s = 9) with rfl | rfl | rfl | rfl | rfl | rfl | rfl | rfl | rfl | rfl <;> decide
theorem p10_step (s : Nat) : p10 (s + 1) = 10 * p10 s := by unfold p10; rw [Int.pow_succ]; omega
variable {Φ : World → Prop} (hst : ∀ w w', Φ w → Below w.heap.size w w' → Φ w')
include hst
theorem s_Rd : Sound Try.prog Φ ΓRd :=
  Sound.cons (by kernel_rfl) (fun args p v h _ => by unfold sRounded at h; split at h <;> cases h; exact c_rounded hst _ _ _)
    (Sound.cons (by kernel_rfl) (fun args p v h hp => by unfold sFormatI at h; split at h <;> cases h; exact c_fmt hst _ _ hp)
    (Sound.cons (by kernel_rfl) (fun args p v h _ => by unfold sBig at h; split at h <;> cases h; exact c_big hst _) Sound.nil))
theorem c_format (n k : Int) : Ans Try.prog Φ 8 [num n, num k] (pair (.string (gateS (FOk n k) (fB n k))) (num (erF n k))) := by
  refine fn_by hst (s_Rd hst) (vc_format n k _) ?_
  by_cases d : Dg9 k
  · have d2 := d
    obtain ⟨d0, d1⟩ := d
    rw [decide_eq_false (by omega), bcase_false, decide_eq_false (by omega), bcase_false]
    refine ⟨trivial, ?_⟩
    by_cases f : Fits n
    · rw [decide_eq_false (fun q => q f), bcase_false, gateS_yes (show FOk n k from ⟨f, d2⟩), show erF n k = 0 by unfold erF; rw [pick_yes d2, pick_yes f]]
      exact ⟨⟨f, d2⟩, rfl⟩
    · rw [decide_eq_true f, bcase_true, gateS_no (fun q : FOk n k => f q.1), show erF n k = 5 by unfold erF; rw [pick_yes d2, pick_no f]]
      try exact rfl
  · rw [gateS_no (fun q : FOk n k => d q.2), show erF n k = 2 by unfold erF; rw [pick_no d]]
    refine bcase_iff.mpr ⟨fun _ => rfl, fun q => bcase_iff.mpr ⟨fun _ => rfl, fun p => absurd ⟨?_, ?_⟩ d⟩⟩
    · have := of_decide_eq_false q; omega
    · have := of_decide_eq_false p; omega
theorem c_print (lo hi u k : Int) : Ans Try.prog Φ 13 [num lo, num hi, num u, num k] (pair (.string (gateS (okP lo hi u k) (prB lo hi u k))) (num (erP lo hi u k))) := by
  refine fn_by hst (s_Rd hst) (vc_print lo hi u k _) ⟨trivial, ?_⟩
  rw [erP_eq]
  rcases ways lo hi u with ⟨a, b, c⟩ | ⟨a, b, c, d⟩ | ⟨a, b, c, d, e⟩ | ⟨a, b, c, d, e⟩
  · rw [gateS_no (fun q : okP lo hi u k => b q.1), if_neg b, c]; exact rfl
  · rw [gateS_no (fun q : okP lo hi u k => c q.1), if_neg c, d]; exact rfl
  · rw [gateS_no (fun q : okP lo hi u k => d q.1), if_neg d, e]; exact rfl
  · rw [e, show ((0 : Int) != 0) = false from rfl, bcase_false, if_pos d, gate_yes d, gate_yes d]
    by_cases g : Dg9 k
    · have f1 : FOk (mulI lo u) k := ⟨mul_fits b.1 a, g⟩
      have f2 : FOk (mulI hi u) k := ⟨mul_fits b.2 a, g⟩
      have s1 := fB_size f1
      have s2 := fB_size f2
      have g' := g
      obtain ⟨g0, g1⟩ := g'
      rw [if_pos g, gateS_yes (show okP lo hi u k from ⟨d, g⟩), decide_eq_false (by omega), bcase_false, decide_eq_false (by omega), bcase_false]
      unfold prB
      refine bcase_iff.mpr ⟨fun q => ⟨f1, ?_⟩, fun q => ⟨f1, ?_⟩⟩
      · rw [if_pos (eq_of_beq q)]; try exact rfl
      · have q : mulI lo u ≠ mulI hi u := by simpa using q
        rw [if_neg q, not_long (by show _ + 4 ≤ _; omega), bcase_false]
        refine ⟨f2, ?_⟩
        rw [not_long (by rw [ByteArray.size_append]; show _ + 4 + _ ≤ _; omega), bcase_false]
        try exact rfl
    · rw [if_neg g, gateS_no (fun q : okP lo hi u k => g q.2)]
      refine bcase_iff.mpr ⟨fun _ => rfl, fun q => bcase_iff.mpr ⟨fun _ => rfl, fun p => absurd ⟨?_, ?_⟩ g⟩⟩
      · have := of_decide_eq_false q; omega
      · have := of_decide_eq_false p; omega
theorem c_r1digits (n k : Int) (h : DgOk n k) : Ans Try.prog Φ 28 [num n, num k] (.string (digB n k)) := by
  obtain ⟨n0, n1, k0, k1⟩ := h
  refine fn_by hst Sound.nil (vc_r1digits n k _) ?_
  refine ⟨(n.toNat, []), ⟨by show n = ((n.toNat : Nat) : Int); omega, by simp, rfl, trivial⟩, ⟨by show ((n.toNat : Nat) : Int) ≤ n; omega, by simp⟩, fun s hs => ?_⟩
  obtain ⟨m, l⟩ := s
  obtain ⟨h1, h2⟩ := hs
  dsimp only at h1 h2 ⊢
  have hl : l.length ≤ 19 := by
    have := congrArg List.length h2
    rw [List.length_append] at this
    have b := digL_len 19 n.toNat k.toNat (by omega)
    omega
  rw [dig_byte, strV_one, not_long (by rw [size_mk, size_mk]; show 1 + _ ≤ _; omega), bcase_false, bytes_app]
  have w1 : IntKind.i64.wrap ((m : Int).tdiv 10) = ((m / 10 : Nat) : Int) := nat10 m (by omega)
  have w2 : IntKind.i64.wrap (k - (l.length : Int) - 1) = k - ((l.length + 1 : Nat) : Int) := by rw [wrap_in (by omega)]; omega
  have step : ¬ (m = 0 ∧ (k - (l.length : Int)).toNat = 0) → ∃ s_1 : Nat × List UInt8,
      (IntKind.i64.wrap ((m : Int).tdiv 10) = (s_1.1 : Int) ∧ IntKind.i64.wrap (k - (l.length : Int) - 1) = k - (s_1.2.length : Int) ∧ ByteArray.mk ([UInt8.ofNat (48 + m % 10)] ++ l).toArray = ByteArray.mk s_1.2.toArray ∧ True) ∧
      ((s_1.1 : Int) ≤ n ∧ digL s_1.1 (k - (s_1.2.length : Int)).toNat ++ s_1.2 = digL n.toNat k.toNat) ∧ s_1.1 + (k - (s_1.2.length : Int)).toNat < m + (k - (l.length : Int)).toNat := fun hz => by
    refine ⟨(m / 10, UInt8.ofNat (48 + m % 10) :: l), ⟨w1, w2, rfl, trivial⟩, ⟨by show ((m / 10 : Nat) : Int) ≤ n; omega, ?_⟩, ?_⟩
    · show digL (m / 10) (k - ((l.length + 1 : Nat) : Int)).toNat ++ _ = _
      rw [← h2, digL_step hz, show (k - ((l.length + 1 : Nat) : Int)).toNat = (k - (l.length : Int)).toNat - 1 by omega]
      simp
    · show m / 10 + (k - ((l.length + 1 : Nat) : Int)).toNat < _
      omega
  refine bcase_iff.mpr ⟨fun q => step (by have := of_decide_eq_true q; omega), fun q => bcase_iff.mpr ⟨fun q2 => step (by have := of_decide_eq_true q2; omega), fun q2 => ?_⟩⟩
  have q := of_decide_eq_false q
  have q2 := of_decide_eq_false q2
  have e1 : m = 0 := by omega
  have e2 : (k - (l.length : Int)).toNat = 0 := by omega
  rw [e1, e2, digL_zero, List.nil_append] at h2
  unfold digB
  rw [h2]
theorem c_r1power (k : Int) (h : Dg9 k) : Ans Try.prog Φ 29 [num k] (num (p10 k.toNat)) := by
  obtain ⟨k0, k1⟩ := h
  refine fn_by hst Sound.nil (vc_r1power k _) ?_
  refine ⟨0, ⟨rfl, rfl, rfl, trivial⟩, by show ((0 : Nat) : Int) ≤ k; omega, fun s hs => ?_⟩
  have hs : (s : Int) ≤ k := hs
  refine bcase_iff.mpr ⟨fun q => ?_, fun q => ?_⟩
  · have q := of_decide_eq_true q
    have c := p10_cap s (by omega)
    refine ⟨s + 1, ⟨rfl, ?_, ?_, trivial⟩, ?_, ?_⟩
    · rw [p10_step, wrap_in (by omega)]
    · rw [wrap_in (by omega)]; rfl
    · show ((s + 1 : Nat) : Int) ≤ k; omega
    · omega
  · have q := of_decide_eq_false q
    rw [show s = k.toNat by omega]
omit hst in
theorem fmt_ok (S : List UInt8) (hS : S.length ≤ 1) (m : Nat) (hm : m ≤ 1152921504606846976) (k : Int) (hk : Dg9 k) (K : Value → Prop)
    (hK : K (.string ⟨(S ++ (digL (m / 10 ^ k.toNat) 1 ++ (if k.toNat = 0 then [] else [46]) ++ digL (m % 10 ^ k.toNat) k.toNat)).toArray⟩)) :
    Dg9 k ∧ bcase (p10 k.toNat == 0) False (DgOk (IntKind.i64.wrap ((m : Int).tdiv (p10 k.toNat))) 1 ∧ bcase (tooLong ⟨S.toArray⟩ (digB (IntKind.i64.wrap ((m : Int).tdiv (p10 k.toNat))) 1)) False
      (bcase (decide (k > 0)) (bcase (tooLong (⟨S.toArray⟩ ++ digB (IntKind.i64.wrap ((m : Int).tdiv (p10 k.toNat))) 1) (ByteArray.mk #[46])) False
        (Dg9 k ∧ bcase (p10 k.toNat == 0) False (DgOk ((m : Int).tmod (p10 k.toNat)) k ∧ bcase (tooLong (⟨S.toArray⟩ ++ digB (IntKind.i64.wrap ((m : Int).tdiv (p10 k.toNat))) 1 ++ ByteArray.mk #[46]) (digB ((m : Int).tmod (p10 k.toNat)) k)) False
          (K (.string (⟨S.toArray⟩ ++ digB (IntKind.i64.wrap ((m : Int).tdiv (p10 k.toNat))) 1 ++ ByteArray.mk #[46] ++ digB ((m : Int).tmod (p10 k.toNat)) k))))))
        (K (.string (⟨S.toArray⟩ ++ digB (IntKind.i64.wrap ((m : Int).tdiv (p10 k.toNat))) 1))))) := by
  have hp : p10 k.toNat = ((10 ^ k.toNat : Nat) : Int) := by unfold p10; simp
  have pos : 0 < 10 ^ k.toNat := Nat.pow_pos (by decide)
  have q : m / 10 ^ k.toNat ≤ m := Nat.div_le_self _ _
  have r : m % 10 ^ k.toNat < 10 ^ k.toNat := Nat.mod_lt _ pos
  have cap : 10 ^ k.toNat ≤ 10 ^ 9 := Nat.pow_le_pow_right (by decide) (by have := hk.2; omega)
  have z : (((10 ^ k.toNat : Nat) : Int) == 0) = false := beq_eq_false_iff_ne.mpr (by omega)
  rw [hp, show (m : Int).tdiv ((10 ^ k.toNat : Nat) : Int) = ((m / 10 ^ k.toNat : Nat) : Int) from rfl, show (m : Int).tmod ((10 ^ k.toNat : Nat) : Int) = ((m % 10 ^ k.toNat : Nat) : Int) from rfl, z]
  clear z hp
  generalize hQ : m / 10 ^ k.toNat = Q at *
  generalize hR : m % 10 ^ k.toNat = R at *
  generalize hP : 10 ^ k.toNat = P at *
  rw [wrap_in (n := (Q : Int)) (by omega)]
  have d1 : (digL Q 1).length ≤ 19 := by have := digL_len 19 Q 1 (by omega); omega
  have d2 : (digL R k.toNat).length ≤ 19 := by have := digL_len 19 R k.toNat (by omega); have := hk.2; omega
  have e1 : digB (Q : Int) 1 = ⟨(digL Q 1).toArray⟩ := rfl
  have e2 : digB (R : Int) k = ⟨(digL R k.toNat).toArray⟩ := rfl
  rw [e1, e2, show ByteArray.mk #[46] = ⟨[46].toArray⟩ from rfl, bytes_app, bytes_app, bytes_app]
  refine ⟨hk, ?_⟩
  rw [bcase_false]
  refine ⟨⟨by omega, by omega, by decide, by decide⟩, ?_⟩
  rw [not_long (by rw [size_mk, size_mk]; omega), bcase_false]
  refine bcase_iff.mpr ⟨fun c => ?_, fun c => ?_⟩
  · rw [not_long (by simp only [size_mk, List.length_append, List.length_singleton]; omega), bcase_false]
    refine ⟨hk, ?_⟩
    rw [bcase_false]
    refine ⟨⟨by omega, by omega, hk⟩, ?_⟩
    rw [not_long (by simp only [size_mk, List.length_append, List.length_singleton]; omega), bcase_false]
    rw [if_neg (by have := of_decide_eq_true c; omega)] at hK
    simpa using hK
  · have c := of_decide_eq_false c
    have k0 : k.toNat = 0 := by omega
    rw [k0] at hP hK
    have : P = 1 := by rw [← hP]
    subst this
    have : R = 0 := by rw [← hR, Nat.mod_one]
    subst this
    rw [if_pos rfl, digL_zero] at hK
    simpa using hK
theorem c_r1format (n k : Int) (h : FOk n k) : Ans Try.prog Φ 11 [num n, num k] (.string (fB n k)) := by
  refine fn_by hst (Sound.cons (by kernel_rfl) (fun args p v h hp => by unfold sDigits at h; split at h <;> cases h; exact c_r1digits hst _ _ hp)
    (Sound.cons (by kernel_rfl) (fun args p v h hp => by unfold sPower at h; split at h <;> cases h; exact c_r1power hst _ hp) Sound.nil)) (vc_r1format n k _) ?_
  obtain ⟨⟨n0, n1⟩, hk⟩ := h
  refine bcase_iff.mpr ⟨fun q => ?_, fun q => ?_⟩
  · have q := of_decide_eq_true q
    have e : IntKind.i64.wrap (0 - n) = ((n.natAbs : Nat) : Int) := by rw [wrap_in (by omega)]; omega
    have := fmt_ok [45] (by decide) n.natAbs (by omega) k hk (fun v => v = .string (fB n k)) (by unfold fB fL; rw [if_pos q])
    rw [← e] at this
    exact this
  · have q := of_decide_eq_false q
    have e : n = ((n.natAbs : Nat) : Int) := by omega
    have := fmt_ok [] (by decide) n.natAbs (by omega) k hk (fun v => v = .string (fB n k)) (by unfold fB fL; rw [if_neg q])
    rw [← e] at this
    exact this
theorem c_r1print (lo hi u k : Int) : Ans Try.prog Φ 15 [num lo, num hi, num u, num k] (pair (.string (gateS (okP lo hi u k) (prB lo hi u k))) (num (erP lo hi u k))) := by
  refine fn_by hst (Sound.cons (by kernel_rfl) (fun args p v h _ => by unfold sRound at h; split at h <;> cases h; exact c_r1round hst _ _ _)
    (Sound.cons (by kernel_rfl) (fun args p v h hp => by unfold sMultiple at h; split at h <;> cases h; exact c_r1multiple hst _ _ hp)
    (Sound.cons (by kernel_rfl) (fun args p v h hp => by unfold sFormatI at h; split at h <;> cases h; exact c_r1format hst _ _ hp) Sound.nil))) (vc_r1print lo hi u k _) ⟨trivial, ?_⟩
  rw [erP_eq, er1_eq]
  rcases ways lo hi u with ⟨a, b, c⟩ | ⟨a, b, c, d⟩ | ⟨a, b, c, d, e⟩ | ⟨a, b, c, d, e⟩
  · rw [gateS_no (fun q : okP lo hi u k => b q.1), if_neg b, if_neg b, c]; exact rfl
  · rw [gateS_no (fun q : okP lo hi u k => c q.1), if_neg c, if_neg c, d]; exact rfl
  · rw [gateS_no (fun q : okP lo hi u k => d q.1), if_neg d, if_neg d, e]; exact rfl
  · rw [if_pos d, if_pos d]
    by_cases g : Dg9 k
    · have f1 : FOk (mulI lo u) k := ⟨mul_fits b.1 a, g⟩
      have f2 : FOk (mulI hi u) k := ⟨mul_fits b.2 a, g⟩
      have m1 : MulOk lo u := ⟨b.1, a⟩
      have m2 : MulOk hi u := ⟨b.2, a⟩
      have s1 := fB_size f1
      have s2 := fB_size f2
      have g' := g
      obtain ⟨g0, g1⟩ := g'
      rw [if_pos g, gateS_yes (show okP lo hi u k from ⟨d, g⟩), decide_eq_false (show ¬ k < 0 by omega), bcase_false, decide_eq_false (show ¬ k > 9 by omega), bcase_false]
      unfold prB
      by_cases q : mulI lo u = mulI hi u
      · rw [if_pos q, if_pos q]
        exact ⟨m1, f1, rfl⟩
      · rw [if_neg q, if_neg q, not_long (a := fB (mulI lo u) k) (b := ByteArray.mk #[32, 46, 46, 32]) (by show _ + 4 ≤ _; omega), bcase_false,
          not_long (a := fB (mulI lo u) k ++ ByteArray.mk #[32, 46, 46, 32]) (by rw [ByteArray.size_append]; show _ + 4 + _ ≤ _; omega), bcase_false]
        exact ⟨m1, f1, m2, f2, rfl⟩
    · rw [if_neg g, gateS_no (fun q : okP lo hi u k => g q.2)]
      have two : ∀ T : Prop, bcase (decide (k < 0)) (Value.tuple #[Value.string (ByteArray.mk #[]), Value.int IntKind.i64 2] = pair (.string ⟨#[]⟩) (num 2)) (bcase (decide (k > 9)) (Value.tuple #[Value.string (ByteArray.mk #[]), Value.int IntKind.i64 2] = pair (.string ⟨#[]⟩) (num 2)) T) := fun T => by
        refine bcase_iff.mpr ⟨fun _ => rfl, fun q => bcase_iff.mpr ⟨fun _ => rfl, fun p => absurd ⟨?_, ?_⟩ g⟩⟩
        · have := of_decide_eq_false q; omega
        · have := of_decide_eq_false p; omega
      by_cases q : mulI lo u = mulI hi u
      · rw [if_pos q]; exact two _
      · rw [if_neg q]; exact two _
theorem s_Ln (hA : Ans Try.prog Φ 7 [] (.bool true)) : Sound Try.prog Φ ΓLn :=
  Sound.cons (by kernel_rfl) (fun args p v h _ => by unfold sYes at h; split at h <;> cases h; exact hA)
  (Sound.cons (by kernel_rfl) (fun args p v h _ => by unfold sFormat at h; split at h <;> cases h; exact c_format hst _ _)
  (Sound.cons (by kernel_rfl) (fun args p v h _ => by unfold sRound at h; split at h <;> cases h; exact c_round hst _ _ _)
  (Sound.cons (by kernel_rfl) (fun args p v h _ => by unfold sPrint at h; split at h <;> cases h; exact c_print hst _ _ _ _)
  (Sound.cons (by kernel_rfl) (fun args p v h _ => by unfold sFits at h; split at h <;> cases h; exact c_fits hst _)
  (Sound.cons (by kernel_rfl) (fun args p v h hp => by unfold sFormatI at h; split at h <;> cases h; exact c_r1format hst _ _ hp)
  (Sound.cons (by kernel_rfl) (fun args p v h _ => by unfold sRound at h; split at h <;> cases h; exact c_r1round hst _ _ _)
  (Sound.cons (by kernel_rfl) (fun args p v h _ => by unfold sPrint at h; split at h <;> cases h; exact c_r1print hst _ _ _ _) Sound.nil)))))))
omit hst in
theorem law_rounds (lo hi u k : Int) : Ans Try.prog Vs 4 [num lo, num hi, num u, num k] (.bool true) := by
  refine fn_by st_vs (s_Ln st_vs c_awake) (vc_rounds lo hi u k _) ⟨trivial, trivial, trivial, trivial, trivial, ?_⟩
  rw [beq_self_eq_true, beq_self_eq_true, beq_self_eq_true, beq_self_eq_true, bcase_true, bcase_true, bcase_true]
end Go.Proofs.Ytobmbbmompoliaa
