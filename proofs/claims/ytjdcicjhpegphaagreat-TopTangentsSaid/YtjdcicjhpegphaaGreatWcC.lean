/- The region around a place: contracts of its parts at the example. -/
import Derived.Test.YtjdcicjhpegphaaGreatWcV
namespace Go.Proofs.YtjdcicjhpegphaaGreat
open Go Go.Abs Go.RowKit Go.Sine
set_option linter.unusedVariables false
set_option linter.unusedSimpArgs false
theorem wr_small {n : Int} (h : -1000000000 ≤ n ∧ n ≤ 1000000000) : IntKind.i64.wrap n = n := wrap_in (by omega)
theorem cl_cases {l r c : Int} (h : ClOk l r c) : (l = 0 ∧ r = 0 ∧ 0 ≤ c ∧ c < 2) ∨ (l = 1 ∧ 0 ≤ r ∧ r < 2 ∧ 0 ≤ c ∧ c < 4) ∨ (l = 2 ∧ 0 ≤ r ∧ r < 4 ∧ 0 ≤ c ∧ c < 8) ∨ (l = 3 ∧ 0 ≤ r ∧ r < 8 ∧ 0 ≤ c ∧ c < 16) := by
  obtain ⟨⟨h1, h2⟩, ⟨h3, h4⟩, h5, h6⟩ := h
  have : l = 0 ∨ l = 1 ∨ l = 2 ∨ l = 3 := by omega
  rcases this with e | e | e | e
  · subst e
    have p : (2 : Int) ^ (0 : Int).toNat = 1 := rfl
    rw [p] at h4 h6
    omega
  · subst e
    have p : (2 : Int) ^ (1 : Int).toNat = 2 := rfl
    rw [p] at h4 h6
    omega
  · subst e
    have p : (2 : Int) ^ (2 : Int).toNat = 4 := rfl
    rw [p] at h4 h6
    omega
  · subst e
    have p : (2 : Int) ^ (3 : Int).toNat = 8 := rfl
    rw [p] at h4 h6
    omega
theorem ed_range {i l : Int} (h : EdOk i l) : 0 ≤ edI i l ∧ edI i l ≤ 691200000 := by
  obtain ⟨⟨h1, h2⟩, h3, h4⟩ := h
  have p : (0 : Int) < 2 ^ l.toNat := Int.pow_pos (by decide)
  unfold edI
  refine ⟨Int.ediv_nonneg (by omega) (by omega), ?_⟩
  have := Int.ediv_le_self (a := i * 10800000) (2 ^ l.toNat) (by omega)
  omega
theorem cl_edges {l r c : Int} (h : ClOk l r c) : EdOk r l ∧ EdOk (r + 1) l ∧ EdOk c l ∧ EdOk (c + 1) l := by
  have := cl_cases h
  unfold EdOk
  omega
variable {Φ : World → Prop} (hst : ∀ w w', Φ w → Below w.heap.size w w' → Φ w')
include hst
theorem c_clvalid {l r c : Int} (h : ClOk l r c) : Ans Tryz.prog Φ 144 [cel l r c] (.bool true) := by
  refine fn_by hst Sound.nil (vc_clvalid l r c _) ?_
  have k := cl_cases h
  have go : ∀ n : Int, IntKind.i64.wrap (1 * 2 ^ min l.toNat 64) = n → IntKind.i64.wrap (2 * 2 ^ min l.toNat 64) = 2 * n → r < n → c < 2 * n → 0 ≤ r → 0 ≤ c → 0 ≤ l → l ≤ 16 → bcase (decide (l ≥ 0)) (bcase (decide (l ≤ 16)) (bcase (decide (r ≥ 0)) (bcase (decide (l < 0)) False (bcase (decide (r < IntKind.i64.wrap (1 * 2 ^ min l.toNat 64))) (bcase (decide (c ≥ 0)) (bcase (decide (l < 0)) False (Value.bool (decide (c < IntKind.i64.wrap (2 * 2 ^ min l.toNat 64))) = Value.bool true)) (Value.bool false = Value.bool true)) (Value.bool false = Value.bool true))) (Value.bool false = Value.bool true)) (Value.bool false = Value.bool true)) (Value.bool false = Value.bool true) := by
    intro n e1 e2 h1 h2 h3 h4 h5 h6
    rw [e1, e2, decide_eq_true (p := l ≥ 0) (by omega), decide_eq_true (p := l ≤ 16) (by omega), decide_eq_true (p := r ≥ 0) (by omega), decide_eq_false (p := l < 0) (by omega), decide_eq_true (p := r < n) h1, decide_eq_true (p := c ≥ 0) (by omega), decide_eq_true (p := c < 2 * n) h2]
    exact rfl
  rcases k with k | k | k | k
  · obtain ⟨e, k⟩ := k
    subst e
    exact go 1 rfl rfl (by omega) (by omega) (by omega) (by omega) (by omega) (by omega)
  · obtain ⟨e, k⟩ := k
    subst e
    exact go 2 rfl rfl (by omega) (by omega) (by omega) (by omega) (by omega) (by omega)
  · obtain ⟨e, k⟩ := k
    subst e
    exact go 4 rfl rfl (by omega) (by omega) (by omega) (by omega) (by omega) (by omega)
  · obtain ⟨e, k⟩ := k
    subst e
    exact go 8 rfl rfl (by omega) (by omega) (by omega) (by omega) (by omega) (by omega)
theorem c_cledge {i l : Int} (h : EdOk i l) : Ans Tryz.prog Φ 170 [num i, num l] (num (edI i l)) := by
  refine fn_by hst Sound.nil (vc_cledge i l _) ?_
  obtain ⟨⟨h1, h2⟩, h3, h4⟩ := h
  rw [decide_eq_false (p := l < 0) (by omega), wr_small (n := i * 10800000) (by omega), show min l.toNat 64 = l.toNat by omega, Int.fdiv_eq_ediv_of_nonneg _ (Int.le_of_lt (Int.pow_pos (by decide)))]
  exact rfl
theorem s_Bx : Sound Tryz.prog Φ ΓBx :=
  Sound.cons (by kernel_rfl) (fun args p v h hp => by unfold sEdge at h; split at h <;> cases h; exact c_cledge hst hp)
  (Sound.cons (by kernel_rfl) (fun args p v h hp => by unfold sClV at h; split at h <;> cases h; exact c_clvalid hst hp) Sound.nil)
theorem c_rgbox {l r c : Int} (h : ClOk l r c) : Ans Tryz.prog Φ 111 [cel l r c] (plc (bx1 l r) (bx1 l (r + 1)) (bx2 l c) (bx2 l (c + 1))) := by
  refine fn_by hst (s_Bx hst) (vc_rgbox l r c _) ?_
  have k := cl_cases h
  obtain ⟨e1, e2, e3, e4⟩ := cl_edges h
  have r1 := ed_range e1
  have r2 := ed_range e2
  have r3 := ed_range e3
  have r4 := ed_range e4
  rw [wr_small (n := r + 1) (by omega), wr_small (n := c + 1) (by omega), wr_small (n := edI r l - 5400000) (by omega), wr_small (n := edI (r + 1) l - 5400000) (by omega), wr_small (n := edI c l - 10800000) (by omega), wr_small (n := edI (c + 1) l - 10800000) (by omega)]
  exact ⟨h, e1, e2, e3, e4, rfl⟩
theorem s_Mt : Sound Tryz.prog Φ ΓMt :=
  Sound.cons (by kernel_rfl) (fun args p v h hp => by unfold sPlV at h; split at h <;> cases h; exact c_plvalid hst _ _ _ _)
  (Sound.cons (by kernel_rfl) (fun args p v h hp => by unfold sAllB at h; split at h <;> cases h; exact c_plall hst _ _)
  (Sound.cons (by kernel_rfl) (fun args p v h hp => by unfold sEvery at h; split at h <;> cases h; exact c_plevery hst)
  (Sound.cons (by kernel_rfl) (fun args p v h hp => by unfold sBvd at h; split at h <;> cases h; exact c_plbeyond hst _ hp)
  (Sound.rcons (by kernel_rfl) (fun ads p rds h hp => by unfold rAr2 at h; split at h <;> cases h; exact r_around0 hst _ hp)
  (Sound.cons (by kernel_rfl) (fun args p v h hp => by unfold sSgn at h; split at h <;> cases h; exact c_ansigned hst _) Sound.nil)))))
omit hst in
theorem bo_facts {a b c d : Int} (h : BoOk 0 0 0 0 a b c d) : (LatV a b ∧ LonP c d) ∧ allB c d = false := by
  obtain ⟨_, ⟨h1, h2, h3⟩, h4, h5, h6, h7⟩ := h
  refine ⟨⟨by unfold LatV; omega, .inr ⟨by omega, by omega, by omega, by rw [wr_small (by omega)]; omega⟩⟩, ?_⟩
  cases e : allB c d with
  | false => rfl
  | true => have := (all_iff c d).mp e; omega
theorem c_plinside {a b c d : Int} (h : BoOk 0 0 0 0 a b c d) : Ans Tryz.prog Φ 113 [plc a b c d, plc 0 0 0 0] (.bool false) := by
  refine fn_by hst (s_Mt hst) (vc_plinside a b c d _) ?_
  obtain ⟨f1, f2⟩ := bo_facts h
  obtain ⟨_, ⟨h1, h2, h3⟩, h4⟩ := h
  refine ⟨trivial, bcase_iff.mpr ⟨fun _ => ⟨trivial, bcase_iff.mpr ⟨fun p => bcase_iff.mpr ⟨fun q => ?_, fun q => rfl⟩, fun p => rfl⟩⟩, fun _ => rfl⟩⟩
  have p := of_decide_eq_true p
  have q := of_decide_eq_true q
  omega
theorem c_rgmeets {a b c d : Int} (h : BoOk 0 0 0 0 a b c d) : Ans Tryz.prog Φ 112 [plc 0 0 0 0, plc a b c d] (.bool (mtB a b c d)) := by
  refine fn_by hst (s_Mt hst) (vc_rgmeets a b c d _) ?_
  obtain ⟨f1, f2⟩ := bo_facts h
  obtain ⟨_, ⟨h1, h2, h3⟩, h4, h5, h6, h7⟩ := h
  have bv : BvOk 0 c := by unfold BvOk I64; omega
  have no : ¬ ((a ≤ 0 ∧ 0 ≤ b) ∧ (c ≤ 0 ∧ 0 ≤ d)) → (Value.bool (23 == 0) : Value) = .bool (mtB a b c d) := fun n => by unfold mtB; rw [decide_eq_false n]; rfl
  have yes : ((a ≤ 0 ∧ 0 ≤ b) ∧ (c ≤ 0 ∧ 0 ≤ d)) → (Value.bool (0 == 0) : Value) = .bool (mtB a b c d) := fun n => by unfold mtB; rw [decide_eq_true n]; rfl
  have hw : wrI (c - 0) = if 0 ≤ c then c else c + 21600000 := by unfold wrI; split <;> omega
  rw [decide_eq_true f1, f2]
  by_cases s : 0 ≤ c
  · rw [if_pos s] at hw
    rw [hw]
    have w1 : IntKind.i64.wrap (c + d) = c + d := wr_small (by omega)
    have w2 : IntKind.i64.wrap (c + d - c) = d := by rw [wr_small (by omega)]; omega
    have w3 : IntKind.i64.wrap (0 - 0) = 0 := rfl
    have w4 : IntKind.i64.wrap (c - 21600000) = c - 21600000 := wr_small (by omega)
    have w5 : IntKind.i64.wrap (c - 21600000 + d) = c - 21600000 + d := wr_small (by omega)
    have w6 : IntKind.i64.wrap (c - 21600000 + d - c) = d - 21600000 := by rw [wr_small (by omega)]; omega
    rw [w1, w2, w3, w4, w5, w6]
    rw [if_neg (show ¬ d < 0 by omega), if_neg (show ¬ c - 21600000 > 0 by omega), if_pos (show d - 21600000 < 0 by omega), decide_eq_false (show ¬ (0 : Int) ≤ d - 21600000 by omega)]
    simp only [bcase_false]
    refine ⟨trivial, trivial, trivial, trivial, bv, bv, bcase_iff.mpr ⟨fun p => ⟨trivial, bcase_iff.mpr ⟨fun q => ?_, fun q => ⟨rfl, fun z hz => ?_⟩⟩⟩, fun p => bcase_iff.mpr ⟨fun q => ?_, fun q => ?_⟩⟩⟩
    · have q := of_decide_eq_true q
      refine no (fun n => ?_)
      split at q <;> split at q <;> omega
    · have p := of_decide_eq_true p
      have c0 : c = 0 := by split at p <;> omega
      have q := of_decide_eq_false q
      subst c0
      refine ⟨?_, yes ?_⟩
      · rw [hz]
        rfl
      · split at q <;> split at q <;> omega
    · have p := of_decide_eq_false p
      refine no (fun n => ?_)
      split at p <;> omega
    · have p := of_decide_eq_false p
      refine no (fun n => ?_)
      split at p <;> omega
  · rw [if_neg s] at hw
    rw [hw]
    have w1 : IntKind.i64.wrap (c + 21600000 + d) = c + 21600000 + d := wr_small (by omega)
    have w2 : IntKind.i64.wrap (c + 21600000 + d - c) = d + 21600000 := by rw [wr_small (by omega)]; omega
    have w3 : IntKind.i64.wrap (0 - 0) = 0 := rfl
    have w4 : IntKind.i64.wrap (c + 21600000 - 21600000) = c := by rw [wr_small (by omega)]; omega
    have w5 : IntKind.i64.wrap (c + d) = c + d := wr_small (by omega)
    have w6 : IntKind.i64.wrap (c + d - c) = d := by rw [wr_small (by omega)]; omega
    rw [w1, w2, w3, w4, w5, w6]
    rw [if_pos (show c + 21600000 > 0 by omega), if_neg (show ¬ d + 21600000 < 0 by omega), if_neg (show ¬ c > 0 by omega), decide_eq_false (show ¬ c + 21600000 ≤ 0 by omega)]
    simp only [bcase_false]
    refine ⟨trivial, trivial, trivial, trivial, bv, bv, bcase_iff.mpr ⟨fun p => ⟨trivial, bcase_iff.mpr ⟨fun q => ?_, fun q => ⟨rfl, fun z hz => ?_⟩⟩⟩, fun p => bcase_iff.mpr ⟨fun q => ?_, fun q => ?_⟩⟩⟩
    · have q := of_decide_eq_true q
      refine no (fun n => ?_)
      split at q <;> split at q <;> omega
    · have p := of_decide_eq_true p
      have q := of_decide_eq_false q
      have d0 : ¬ d < 0 := by split at p <;> omega
      refine ⟨?_, yes ?_⟩
      · rw [hz, if_neg d0]
        rfl
      · split at q <;> split at q <;> omega
    · have p := of_decide_eq_false p
      refine no (fun n => ?_)
      split at p <;> omega
    · have p := of_decide_eq_false p
      refine no (fun n => ?_)
      split at p <;> omega
theorem r_children {l r c : Int} (h : ClOk l r c) : RAns Tryz.prog Φ 115 [.one (.v (cel l r c))] [.one (.r 111 cET (chL l r c)), .one (.v (num 0))] := by
  refine rfn_by hst (Sound.cons (by kernel_rfl) (fun args p v h hp => by unfold sClV at h; split at h <;> cases h; exact c_clvalid hst hp) Sound.nil) (vc_children l r c) ?_
  have k := cl_cases h
  refine ⟨h, bcase_iff.mpr ⟨fun q => ?_, fun _ => ⟨rfl, rfl, rfl, rfl, ?_, rfl, trivial⟩⟩⟩
  · have q : l = 16 := by simpa using q
    omega
  · have w0 : IntKind.i64.wrap (0 + 1) = 1 := rfl
    have w1 : IntKind.i64.wrap (1 + 1) = 2 := rfl
    have w2 : IntKind.i64.wrap (2 + 1) = 3 := rfl
    have t0 : Int.tdiv 0 2 = 0 := rfl
    have t1 : Int.tdiv 1 2 = 0 := rfl
    have t2 : Int.tdiv 2 2 = 1 := rfl
    have t3 : Int.tdiv 3 2 = 1 := rfl
    have m0 : Int.tmod 0 2 = 0 := rfl
    have m1 : Int.tmod 1 2 = 1 := rfl
    have m2 : Int.tmod 2 2 = 0 := rfl
    have m3 : Int.tmod 3 2 = 1 := rfl
    have v0 : IntKind.i64.wrap 0 = 0 := rfl
    have v1 : IntKind.i64.wrap 1 = 1 := rfl
    rw [w0, w1, w2, t0, t1, t2, t3, m0, m1, m2, m3, v0, v1, wr_small (n := l + 1) (by omega), wr_small (n := 2 * r) (by omega), wr_small (n := 2 * c) (by omega), wr_small (n := 2 * r + 0) (by omega), wr_small (n := 2 * c + 0) (by omega), wr_small (n := 2 * r + 1) (by omega), wr_small (n := 2 * c + 1) (by omega), Int.add_zero, Int.add_zero]
end Go.Proofs.YtjdcicjhpegphaaGreat
