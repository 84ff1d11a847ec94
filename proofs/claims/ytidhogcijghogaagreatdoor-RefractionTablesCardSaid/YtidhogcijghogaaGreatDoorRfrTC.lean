/- Refraction: the tables of the program and of the reference; the law. -/
import Derived.Test.YtidhogcijghogaaGreatDoorRfrTV
namespace Go.Proofs.YtidhogcijghogaaGreatDoor
open Go Go.Abs Go.RowKit
set_option linter.unusedVariables false
set_option linter.unusedSimpArgs false
theorem fit_u {u : Int} (h : RU u) : Dp.Fit u := by
  have := h.1
  have := h.2
  unfold Dp.Fit
  omega
theorem pr_ok {u : Int} (h : RU u) : PrOk (oneL u) (oneH u) := by
  obtain ⟨a, b, c, d⟩ := one_wide h
  unfold PrOk
  omega
theorem pr_prints {a b : Int} (h : PrOk a b) : Dp.Val a b ∧ Dp.Fit (Dp.rnd a) ∧ Dp.Fit (Dp.rnd b) := by
  unfold PrOk at h
  unfold Dp.Val Dp.Fit Dp.rnd
  omega
theorem h_print {a b : Int} (h : PrOk a b) : Ans Tryz.prog Tabs 12 [wid a b] (pair (.string (Dp.printB a b)) (num 0)) := by
  have c := Dp.c_print a b
  obtain ⟨h1, h2, h3⟩ := pr_prints h
  have e : Dp.pick (Dp.Val a b) (Dp.pick (Dp.Fit (Dp.rnd a) ∧ Dp.Fit (Dp.rnd b)) 0 5) 1 = 0 := by
    unfold Dp.pick
    rw [if_pos h1, if_pos ⟨h2, h3⟩]
  rw [e] at c
  exact c
theorem h_r5print {a b : Int} (h : PrOk a b) : Ans Tryz.prog Tabs 14 [wid a b] (pair (.string (Dp.printB a b)) (num 0)) := by
  obtain ⟨h1, h2, h3⟩ := pr_prints h
  have c := Dp.c_r5print Dp.st_tabs a b h1
  have e : Dp.pick (Dp.Fit (Dp.rnd a) ∧ Dp.Fit (Dp.rnd b)) 0 5 = 0 := by
    unfold Dp.pick
    rw [if_pos ⟨h2, h3⟩]
  rw [e] at c
  exact c
theorem h_text {u : Int} (h : RU u) : Ans Tryz.prog Tabs 11 [num u] (pair (.string (Dp.textB u)) (num 0)) := by
  have f := fit_u h
  refine fn_by Dp.st_tabs (Sound.cons (by kernel_rfl) (fun args p v h _ => by split at h <;> cases h; exact Dp.c_fits Dp.st_tabs _) (Sound.cons (by kernel_rfl) (fun args p v h hp => by split at h <;> cases h; exact Dp.c_textI _ hp) Sound.nil)) (vc_antext20 u _) ⟨trivial, ?_⟩
  rw [decide_eq_true f, Bool.not_true, bcase_false]
  exact ⟨f, rfl⟩
theorem s_TbU : Sound Tryz.prog Tabs ΓTbU :=
  Sound.cons (by kernel_rfl) (fun args p v h hp => by unfold sTxU at h; split at h <;> cases h; exact h_text hp)
  (Sound.cons (by kernel_rfl) (fun args p v h hp => by unfold sOne at h; split at h <;> cases h; exact c_rfone Dp.st_tabs hp)
  (Sound.cons (by kernel_rfl) (fun args p v h hp => by unfold sPrU at h; split at h <;> cases h; exact h_print hp) Sound.nil))
theorem s_TbR : Sound Tryz.prog Tabs ΓTbR :=
  Sound.cons (by kernel_rfl) (fun args p v h hp => by unfold sTxR at h; split at h <;> cases h; exact Dp.c_r5text Dp.st_tabs _ (fit_u hp))
  (Sound.cons (by kernel_rfl) (fun args p v h hp => by unfold sOne at h; split at h <;> cases h; exact c_r20one Dp.st_tabs hp)
  (Sound.cons (by kernel_rfl) (fun args p v h hp => by unfold sPrU at h; split at h <;> cases h; exact h_r5print hp) Sound.nil))
theorem linesU_len (f s : Int) (k : Nat) : (linesU f s k).length = k := by unfold linesU; simp
theorem linesU_succ (f s : Int) (k : Nat) : linesU f s (k + 1) = linesU f s k ++ [lineU (f + (k : Int) * s)] := by
  unfold linesU
  rw [List.range_succ, List.map_append]
  rfl
theorem tab_rng {f t s : Int} (h : ¬ okTb f t s) : tabU f t s = [] ∧ tabUE f t s = 2 := ⟨if_neg fun q => h q.1, if_neg h⟩
theorem tab_full {f t s : Int} (h : okTb f t s) (q : ¬ fewT f t s) : tabU f t s = [] ∧ tabUE f t s = 4 := ⟨if_neg fun k => q k.2, by unfold tabUE; rw [if_pos h, if_neg q]⟩
theorem tab_has {f t s : Int} (h : okTb f t s) (q : fewT f t s) : tabU f t s = linesU f s (nTb f t s) ∧ tabUE f t s = 0 := ⟨if_pos ⟨h, q⟩, by unfold tabUE; rw [if_pos h, if_pos q]⟩
/-- A line of a table. -/
theorem tab_step {f t s : Int} (h : okTb f t s) (q : fewT f t s) {k : Nat} (hk : k ≤ nTb f t s) :
    (f + (k : Int) * s ≤ t → RU (f + (k : Int) * s) ∧ k + 1 ≤ nTb f t s ∧ k ≤ 1000 ∧ IntKind.i64.wrap (f + (k : Int) * s + s) = f + ((k + 1 : Nat) : Int) * s) ∧ (¬ f + (k : Int) * s ≤ t → k = nTb f t s) := by
  obtain ⟨f0, f1, t0, t1, ft, s0, s1⟩ := h
  unfold fewT at q
  unfold nTb at hk ⊢
  have d0 : 0 ≤ (t - f) / s := Int.ediv_nonneg (by omega) (by omega)
  have iff : (k : Int) ≤ (t - f) / s ↔ (k : Int) * s ≤ t - f := Int.le_ediv_iff_mul_le (by omega)
  have p0 : 0 ≤ (k : Int) * s := Int.mul_nonneg (by omega) (by omega)
  constructor
  · intro hq
    have h1 := iff.mpr (by omega)
    refine ⟨⟨by omega, by omega⟩, by omega, by omega, ?_⟩
    rw [wrap_in (by omega)]
    have : ((k + 1 : Nat) : Int) * s = (k : Int) * s + s := by rw [Int.natCast_add, Int.add_mul]; omega
    omega
  · intro hq
    have h1 : ¬ (k : Int) ≤ (t - f) / s := fun z => by have := iff.mp z; omega
    omega
theorem line_long {u : Int} (h : RU u) : tooLong (Dp.textB u) (ByteArray.mk #[32]) = false ∧ tooLong (Dp.textB u ++ ByteArray.mk #[32]) (Dp.printB (oneL u) (oneH u)) = false := by
  have h1 := Dp.textB_size (fit_u h)
  have h2 := Dp.print_size (a := oneL u) (b := oneH u) (pr_prints (pr_ok h))
  have h3 : (ByteArray.mk #[32]).size = 1 := rfl
  exact ⟨Dp.not_long (by omega), Dp.not_long (by rw [ByteArray.size_append]; omega)⟩
theorem div_is {f t s : Int} (h : okTb f t s) : (IntKind.i64.wrap (t - f)).tdiv s = (t - f) / s ∧ 0 ≤ (t - f) / s ∧ (t - f) / s ≤ 5460000 := by
  obtain ⟨f0, f1, t0, t1, ft, s0, s1⟩ := h
  rw [wrap_in (n := t - f) (by omega), Int.tdiv_eq_ediv_of_nonneg (by omega)]
  refine ⟨rfl, Int.ediv_nonneg (by omega) (by omega), ?_⟩
  have := Int.ediv_le_self s (show 0 ≤ t - f by omega)
  omega
theorem tab_no2 {f t s : Int} (h : ¬ okTb f t s) : [] = tabU f t s ∧ Value.int IntKind.i64 2 = Value.int IntKind.i64 (tabUE f t s) ∧ True := by
  obtain ⟨a, b⟩ := tab_rng h
  rw [a, b]
  exact ⟨rfl, rfl, trivial⟩
theorem c_rftable (f t s : Int) : RAns Tryz.prog Tabs 5 [oV (num f), oV (num t), oV (num s)] [.one (bR (tabU f t s)), .one (.v (num (tabUE f t s)))] := by
  refine rfn_by Dp.st_tabs s_TbU (vc_rftable f t s) ?_
  by_cases ok : okTb f t s
  · have ok' := ok
    obtain ⟨f0, f1, t0, t1, ft, s0, s1⟩ := ok'
    obtain ⟨d1, d2, d3⟩ := div_is ok
    rw [decide_eq_true (p := f ≥ -60000) f0, decide_eq_true (p := f ≤ 5400000) f1, decide_eq_true (p := t ≥ -60000) t0, decide_eq_true (p := t ≤ 5400000) t1, decide_eq_false (p := f > t) (by omega), decide_eq_true (p := s ≥ 1) s0, decide_eq_true (p := s ≤ 5400000) s1, show (s == 0) = false from beq_eq_false_iff_ne.mpr (by omega), Bool.not_true, bcase_true, bcase_true, bcase_true, bcase_false, bcase_false, bcase_false, bcase_false, bcase_false, d1, wrap_in (n := (t - f) / s) (by omega)]
    by_cases q : fewT f t s
    · rw [decide_eq_false (p := (t - f) / s ≥ 1000) (by unfold fewT at q; omega), bcase_false]
      refine ⟨0, ⟨rfl, rfl, rfl, by simp, rfl, trivial⟩, Nat.zero_le _, fun k hk => ?_⟩
      obtain ⟨y, n⟩ := tab_step ok q hk
      refine bcase_iff.mpr ⟨fun c => ?_, fun c => ?_⟩
      · obtain ⟨ru, k1, k2, e⟩ := y (of_decide_eq_true c)
        obtain ⟨l1, l2⟩ := line_long ru
        rw [l1, l2, bcase_false, bcase_false, linesU_len, Dp.cap16 (by omega), bcase_true]
        refine ⟨ru, ru, pr_ok ru, rfl, k + 1, ⟨rfl, rfl, by rw [linesU_len], by omega, e, by rw [linesU_succ]; rfl, trivial⟩, k1, by omega⟩
      · have e := n (of_decide_eq_false c)
        obtain ⟨a, b⟩ := tab_has ok q
        rw [a, b, e]
        exact ⟨rfl, rfl, rfl, trivial⟩
    · obtain ⟨a, b⟩ := tab_full ok q
      rw [decide_eq_true (p := (t - f) / s ≥ 1000) (by unfold fewT at q; omega), bcase_true, a, b]
      exact ⟨rfl, rfl, trivial⟩
  · have n := tab_no2 ok
    refine bcase_iff.mpr ⟨fun a1 => bcase_iff.mpr ⟨fun _ => n, fun a2 => bcase_iff.mpr ⟨fun a3 => bcase_iff.mpr ⟨fun _ => n, fun a4 => bcase_iff.mpr ⟨fun _ => n, fun a5 => bcase_iff.mpr ⟨fun a6 => bcase_iff.mpr ⟨fun _ => n, fun a7 => ?_⟩, fun _ => n⟩⟩⟩, fun _ => n⟩⟩, fun _ => n⟩
    exact absurd (show okTb f t s by
      simp at a1 a2 a3 a4 a5 a6 a7
      unfold okTb
      omega) ok
theorem c_r20table (f t s : Int) : RAns Tryz.prog Tabs 6 [oV (num f), oV (num t), oV (num s)] [.one (bR (tabU f t s)), .one (.v (num (tabUE f t s)))] := by
  refine rfn_by Dp.st_tabs s_TbR (vc_r20table f t s) ?_
  by_cases ok : okTb f t s
  · have ok' := ok
    obtain ⟨f0, f1, t0, t1, ft, s0, s1⟩ := ok'
    obtain ⟨d1, d2, d3⟩ := div_is ok
    rw [decide_eq_false (p := f < -60000) (by omega), decide_eq_false (p := t > 5400000) (by omega), decide_eq_false (p := f > t) (by omega), decide_eq_false (p := s < 1) (by omega), decide_eq_false (p := s > 5400000) (by omega), show (s == 0) = false from beq_eq_false_iff_ne.mpr (by omega), bcase_false, bcase_false, bcase_false, bcase_false, bcase_false, bcase_false, d1, wrap_in (n := (t - f) / s) (by omega), wrap_in (n := (t - f) / s + 1) (by omega)]
    by_cases q : fewT f t s
    · rw [decide_eq_false (p := (t - f) / s + 1 > 1000) (by unfold fewT at q; omega), bcase_false]
      refine ⟨0, ⟨rfl, rfl, rfl, by simp, rfl, trivial⟩, Nat.zero_le _, fun k hk => ?_⟩
      obtain ⟨y, n⟩ := tab_step ok q hk
      refine bcase_iff.mpr ⟨fun c => ?_, fun c => ?_⟩
      · obtain ⟨ru, k1, k2, e⟩ := y (of_decide_eq_true c)
        obtain ⟨l1, l2⟩ := line_long ru
        rw [l1, l2, bcase_false, bcase_false, linesU_len, Dp.cap16 (by omega), bcase_true]
        refine ⟨ru, pr_ok ru, ru, rfl, k + 1, ⟨rfl, rfl, by rw [linesU_len], by omega, e, by rw [linesU_succ]; rfl, trivial⟩, k1, by omega⟩
      · have e := n (of_decide_eq_false c)
        obtain ⟨a, b⟩ := tab_has ok q
        rw [a, b, e]
        exact ⟨rfl, rfl, rfl, trivial⟩
    · obtain ⟨a, b⟩ := tab_full ok q
      rw [decide_eq_true (p := (t - f) / s + 1 > 1000) (by unfold fewT at q; omega), bcase_true, a, b]
      exact ⟨rfl, rfl, trivial⟩
  · have n := tab_no2 ok
    refine bcase_iff.mpr ⟨fun _ => n, fun a1 => bcase_iff.mpr ⟨fun _ => n, fun a2 => bcase_iff.mpr ⟨fun _ => n, fun a3 => bcase_iff.mpr ⟨fun _ => n, fun a4 => bcase_iff.mpr ⟨fun _ => n, fun a5 => ?_⟩⟩⟩⟩⟩
    exact absurd (show okTb f t s by
      simp at a1 a2 a3 a4 a5
      unfold okTb
      omega) ok
theorem s_Lt : Sound Tryz.prog Tabs (ΓLt20 tabU tabUE) :=
  Sound.cons (by kernel_rfl) (fun args p v h _ => by unfold sYes20 at h; split at h <;> cases h; exact fun w _ => c_awake20 w trivial)
  (Sound.rcons (by kernel_rfl) (fun ads p rds h _ => by unfold sTbC at h; split at h <;> cases h; exact c_rftable _ _ _)
  (Sound.rcons (by kernel_rfl) (fun ads p rds h _ => by unfold sTbC at h; split at h <;> cases h; exact c_r20table _ _ _)
  (Sound.rcons (by kernel_rfl) (fun ads p rds h hp => by split at h <;> cases h; exact Dp.c_eqS Dp.st_tabs _ _ hp.1 hp.2) Sound.nil)))
theorem tabU_len (f t s : Int) : (tabU f t s).length ≤ 1000 := by
  unfold tabU
  split
  · rename_i h
    have := h.2
    unfold fewT at this
    rw [linesU_len]
    unfold nTb
    omega
  · exact Nat.zero_le _
theorem tkz20 {α : Type} {x : List α} {p : List α → Prop} (h : p x) : 0 + x.length ≤ x.length ∧ ∀ z, z = List.take x.length x → p z := ⟨by omega, fun z hz => by rw [hz, List.take_length]; exact h⟩
theorem law_tablesR (f t s : Int) (hf : I64 f) (ht : I64 t) (hs : I64 s) : RAns Tryz.prog Tabs 3 [oV (num f), oV (num t), oV (num s)] [oV (.bool true)] := by
  refine rfn_by Dp.st_tabs s_Lt (vc_lawtables f t s tabU tabUE) ⟨trivial, ?_⟩
  have n := tabU_len f t s
  have eo : EqOk (tabU f t s) (tabU f t s) := ⟨by omega, by omega⟩
  rw [show (tabUE f t s == tabUE f t s) = true by simp, bcase_true]
  have hI : I64 f ∧ I64 t ∧ I64 s := ⟨hf, ht, hs⟩
  refine bcase_iff.mpr ⟨fun _ => bcase_iff.mpr ⟨fun _ => bcase_iff.mpr ⟨fun _ => bcase_iff.mpr ⟨fun c => ?_, fun _ => ?_⟩, fun _ => ?_⟩, fun _ => ?_⟩, fun _ => ?_⟩
  · have c := of_decide_eq_true c
    rw [show (s == 0) = false from beq_eq_false_iff_ne.mpr (by omega), bcase_false]
    refine bcase_iff.mpr ⟨fun _ => bcase_iff.mpr ⟨fun _ => ⟨rfl, trivial⟩, fun _ => ?_⟩, fun _ => ?_⟩
    all_goals exact ⟨hI, hI, tkz20 (tkz20 ⟨eo, by rw [decide_eq_true rfl], trivial⟩)⟩
  all_goals exact ⟨hI, hI, tkz20 (tkz20 ⟨eo, by rw [decide_eq_true rfl], trivial⟩)⟩
theorem law_tables (f : Int) (hf : I64 f) (t : Int) (ht : I64 t) (s : Int) (hs : I64 s) : Ans Tryz.prog Tabs 3 [num f, num t, num s] (.bool true) :=
  Dp.ans_of (args := [num f, num t, num s]) (law_tablesR f t s hf ht hs)
end Go.Proofs.YtidhogcijghogaaGreatDoor
