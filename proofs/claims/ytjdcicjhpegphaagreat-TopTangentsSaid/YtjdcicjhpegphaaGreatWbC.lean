/- The examples that TopTangents looks at: contracts. -/
import Derived.Test.YtjdcicjhpegphaaGreatWbV
import Derived.Test.YtjdcicjhpegphaaGreatSqB
namespace Go.Proofs.YtjdcicjhpegphaaGreat
open Go Go.Abs Go.RowKit Go.Sine
set_option linter.unusedVariables false
set_option linter.unusedSimpArgs false
/-- What Inverse answers at the example. -/
theorem c_gcinverse : ∃ X Y : Int, ∀ {Φ : World → Prop} (hst : ∀ w w', Φ w → Below w.heap.size w w' → Φ w'), Ans Tryz.prog Φ 15 [wid 0 0, wid 0 3600000] (pair (arc4 X Y 3600000 3600000) (num 0)) := by
  obtain ⟨X, Y, hc⟩ := m_gccourse
  refine ⟨X, Y, fun {Φ} hst => fn_by hst (Γ := ΓIn X Y) ?_ (vc_gcinverse X Y _) ⟨trivial, trivial, ⟨rfl, rfl⟩, ⟨rfl, rfl⟩, rfl⟩⟩
  refine Sound.cons (by kernel_rfl) (fun args p v h hp => by unfold sPtV at h; split at h <;> cases h; exact c_plvalidpoint hst _ _) (Sound.pcons (by kernel_rfl) (fun args cell p v h hp => ?_) (Sound.pcons (by kernel_rfl) (fun args cell p v h hp => ?_) Sound.nil))
  · unfold pLeg at h
    split at h <;> cases h
    obtain ⟨h1, h2⟩ := hp
    unfold P6 at h1
    cases h1
    cases h2
    exact zc_pans fun b T => hc hst b T
  · unfold pLeg at h
    split at h <;> cases h
    obtain ⟨h1, h2⟩ := hp
    unfold P6 at h1
    cases h1
    cases h2
    exact zc_pans fun b T => m_gcdistance hst b T
section
variable {Φ : World → Prop} (hst : ∀ w w', Φ w → Below w.heap.size w w' → Φ w')
include hst
theorem c_plbeyond {a n : Int} (b : Int) (h : BvOk a n) : Ans Tryz.prog Φ 160 [wid a b, num n] (num (wrI (n - a))) := by
  refine fn_by hst (Sound.cons (by kernel_rfl) (fun args p v h hp => by unfold sAnWrap at h; split at h <;> cases h; exact c_anwrap hst _) Sound.nil) (vc_plbeyond a b n _) ⟨trivial, ?_⟩
  rw [wrap_in (by unfold BvOk I64 at h; omega)]
theorem s_Ad : Sound Tryz.prog Φ ΓAd :=
  Sound.cons (by kernel_rfl) (fun args p v h hp => by unfold sAllB at h; split at h <;> cases h; exact c_plall hst _ _)
  (Sound.cons (by kernel_rfl) (fun args p v h hp => by unfold sEvery at h; split at h <;> cases h; exact c_plevery hst)
  (Sound.cons (by kernel_rfl) (fun args p v h hp => by unfold sBvd at h; split at h <;> cases h; exact c_plbeyond hst _ hp) Sound.nil))
theorem r_around0 (xs : List (Int × Int)) (h : xs = arX) : RAns Tryz.prog Φ 159 [.one (.r 23 (.pair (.int .i64) (.int .i64)) xs)] [.agg [.v (num 0), .v (num 0)]] := by
  subst h
  refine rfn_by hst (s_Ad hst) (vc_around ()) ?_
  refine ⟨trivial, trivial, ?_, rfl, ?_, trivial⟩
  · unfold BvOk I64; decide
  · exact congrArg (Value.int IntKind.i64) (by decide)
theorem c_al6 : Ans Tryz.prog Φ 24 [tri6 0 0 0 0 3600000 3600000] (fxOk 1800000 1800000) := by
  have h := c_csaltitude hst meets_all (l := 0) (l' := 0) (d := 0) (d' := 0) (h := 3600000) (h' := 3600000) (by decide +kernel)
  rw [show hL 0 0 0 0 3600000 3600000 = 1800000 from by decide +kernel, show hH 0 0 0 0 3600000 3600000 = 1800000 from by decide +kernel] at h
  exact h
theorem c_cos6 {a b : Int} (h : (b = 0 ∧ AB0 a b) ∨ (b ≠ 0 ∧ AB6 a b)) : Ans Tryz.prog Φ 94 [wid a b] (fxOk (if b = 0 then 1073741824 else 1073578287) 1073741824) := by
  rcases h with ⟨h0, h1, h2⟩ | ⟨h0, h1, h2⟩
  · subst h1 h2
    have := t_cos hst (a := 0) (b := 0) (by decide +kernel)
    rw [show cL 0 0 = 1073741824 from by decide +kernel, show cH 0 0 = 1073741824 from by decide +kernel] at this
    exact this
  · subst h1 h2
    have := t_cos hst (a := 0) (b := 60000) (by decide +kernel)
    rw [show cL 0 60000 = 1073578287 from by decide +kernel, show cH 0 60000 = 1073741824 from by decide +kernel] at this
    exact this
theorem c_sin6 {a b : Int} (h : AB0 a b) : Ans Tryz.prog Φ 85 [wid a b] (fxOk 0 0) := by
  obtain ⟨h1, h2⟩ := h
  subst h1 h2
  have := t_sin hst (a := 0) (b := 0) (by decide +kernel)
  rw [show encL 0 0 = 0 from by decide +kernel, show encH 0 0 = 0 from by decide +kernel] at this
  exact this
theorem c_enc6 : Ans Tryz.prog Φ 134 [num 1073741824, num 60000, num 1073741824] (trip 60000 60000 0) := by
  have := c_fxenclose hst (x := 1073741824) (n := 60000) (d := 1073741824) (by unfold Q31; decide) (by decide +kernel) (by decide) (by decide)
  rw [show eL 1073741824 60000 1073741824 = 60000 from by decide +kernel, show eH 1073741824 60000 1073741824 = 60000 from by decide +kernel, show eE 1073741824 60000 1073741824 = 0 from by decide +kernel] at this
  exact this
theorem c_enc0 : Ans Tryz.prog Φ 134 [num 0, num 60000, num 1073741824] (trip 0 0 0) := by
  have := c_fxenclose hst (x := 0) (n := 60000) (d := 1073741824) (by unfold Q31; decide) (by decide +kernel) (by decide) (by decide)
  rw [show eL 0 60000 1073741824 = 0 from by decide +kernel, show eH 0 60000 1073741824 = 0 from by decide +kernel, show eE 0 60000 1073741824 = 0 from by decide +kernel] at this
  exact this
theorem c_quo6 {a b c d n : Int} (h : QuP a b c d n) : Ans Tryz.prog Φ 104 [wid a b, wid c d, num n] (trip 0 0 0) := by
  obtain ⟨h1, h2, h3, h4⟩ := h
  subst h4
  have := c_fxquo hst (a := a) (b := b) (c := c) (d := d) (n := 0) h1 h2 h3 (by decide +kernel)
  have z : ∀ x y : Int, flQ x 0 y = 0 ∧ ceQ x 0 y = 0 := fun x y => by
    unfold flQ ceQ
    rw [Int.mul_zero, Int.zero_ediv]
    exact ⟨rfl, by rw [show (-0 : Int) = 0 from rfl, Int.zero_ediv]; rfl⟩
  have q1 : qL a b c d 0 = 0 := by unfold qL; rw [(z a c).1, (z a d).1, (z b c).1, (z b d).1]; rfl
  have q2 : qH a b c d 0 = 0 := by unfold qH; rw [(z a c).2, (z a d).2, (z b c).2, (z b d).2]; rfl
  have ok : okF a b c d 0 := by unfold okF; rw [q1, q2]; decide
  have e : quoAns a b c d 0 = trip 0 0 0 := by
    unfold quoAns
    rw [gate_t ok, gate_t ok, pick_t ok, q1, q2]
  rw [e] at this
  exact this
end
end Go.Proofs.YtjdcicjhpegphaaGreat
