/- The examples that TopTangents looks at: the region, the run, and all. -/
import Derived.Test.YtjdcicjhpegphaaGreatWcS
namespace Go.Abs
open Go Go.RowKit
variable {P : Program}
/-- As rcallsX, with so many calls within calls. -/
def rcallsN (n : Nat) (P : Program) (Γ : List (FuncId × CSpec)) (A : FuncId → List (Nat × LoopBy)) (f : FuncId) (ads rds : List AD) : Prop :=
  match stCells 0 (flatCD ads) with
  | some (sts, hp) => (match groupAV ads sts with | some args => runX P Γ A n f args hp (retK sts rds) | none => False)
  | none => False
theorem rfn_runN {n : Nat} {Φ : World → Prop} (hst : ∀ w w', Φ w → Below w.heap.size w w' → Φ w') {Γ : List (FuncId × CSpec)} (hΓ : Sound P Φ Γ) {A : FuncId → List (Nat × LoopBy)} {f : FuncId} {ads rds : List AD} (h : rcallsN n P Γ A f ads rds) : RAns P Φ f ads rds := by
  intro w vs cells hw h1 h2
  unfold rcallsN at h
  split at h
  · rename_i sts hp hs
    split at h
    · rename_i args hg
      have hR0 : Rel w.heap.size w (fun _ => none) (hpF []) w := by
        refine ⟨Below.refl _ _, Nat.le_refl _, fun _ _ => rfl, fun i j b x y hi => (by cases hi), fun k b x hk => (by cases hk), fun k x hx => (by simp [hpF] at hx), KeepsOthers.refl _⟩
      obtain ⟨ρ0, _, hR, hr⟩ := stCells_run (B := w.heap.size) (w0 := w) rfl (h0 := []) hR0 (fun i x hx => by simp [hpF] at hx) h2 hs
      have hr1 := (groupAV_run hg h1 hr).rl
      obtain ⟨_, hc⟩ := runX_sound hΓ (B := w.heap.size) (w0 := w) (fun w' hb _ => hst w w' hw hb) (A := A) n f args _ _ w ρ0 vs h hR hr1
      refine hc.mono fun e w' hq => ?_
      obtain ⟨ρ', hp', av, v, he, q1, q2, q3, q4⟩ := hq
      obtain ⟨rvs, rcells, gs, r1, r2, r3, r4⟩ := retK_run q2 q1 hr q3 q4
      exact ⟨q2.below, rvs, rcells, gs, by rw [he, r1], r2, r3, r4⟩
    · exact h.elim
  · exact h.elim
theorem rfn_byN {n : Nat} {Φ : World → Prop} (hst : ∀ w w', Φ w → Below w.heap.size w w' → Φ w') {Γ : List (FuncId × CSpec)} (hΓ : Sound P Φ Γ) {A : FuncId → List (Nat × LoopBy)} {f : FuncId} {ads rds : List AD} {V : Prop} (hv : rcallsN n P Γ A f ads rds = V) (h : V) : RAns P Φ f ads rds :=
  rfn_runN hst hΓ (n := n) (A := A) (by rw [hv]; exact h)
end Go.Abs
namespace Go.Proofs.YtjdcicjhpegphaaGreat
open Go Go.Abs Go.RowKit Go.Sine
set_option linter.unusedVariables false
def ΓAr3 : List (FuncId × CSpec) := [(58, .v sPlV), (111, .v sBox), (112, .v sMeet), (113, .v sInsd), (115, .r rChi), (144, .v sClV)]
abbrev outL : List (Int × Int × Int) := [(3, 3, 7), (3, 4, 7), (3, 3, 8), (3, 4, 8)]
abbrev lET : ET := .pair (.int .i64) (.pair (.int .i64) (.pair (.int .i64) (.int .i64)))
abbrev legL : List (Int × Int × Int × Int) := [(0, 0, 60000, 60000)]
def ΓRu3 : List (FuncId × CSpec) := [(85, .v sSin6), (94, .v sCos6), (91, .v sFxValid), (86, .v sFxBoth), (133, .v sFxFactor), (134, .v sEnc6), (104, .v sQuo6), (26, .v sAnValid), (63, .v sSgn), (58, .v sPlV)]
def rRun3 : RSpec := fun
  | [.one (.v (.agg ⟨[.int .i64 z1, .int .i64 z2, .int .i64 z3, .int .i64 z4]⟩)), .one (.r 53 (.pair (.int .i64) (.pair (.int .i64) (.pair (.int .i64) (.int .i64)))) xs)] => some ((z1 = 0 ∧ z2 = 0 ∧ z3 = 0 ∧ z4 = 0) ∧ xs = legL, [.agg [.v (num 60000), .v (num 60000), .v (num 0), .v (num 0)], .one (.v (num 0))])
  | _ => none
def Lv3 (z1 z2 z3 z4 n : Int) : Prop := (z1 = 0 ∧ z2 = 0 ∧ z3 = 0 ∧ z4 = 0) ∧ n = 3
def rAro3 : RSpec := fun
  | [.one (.v (.agg ⟨[.int .i64 z1, .int .i64 z2, .int .i64 z3, .int .i64 z4]⟩)), .one (.v (.int .i64 n))] => some (Lv3 z1 z2 z3 z4 n, [.one (.r 111 cET outL), .one (.v (num 0))])
  | _ => none
def ΓWy (X Y : Int) : List (FuncId × CSpec) := [(15, .v (sInv X Y)), (24, .v sAl6), (10, .v sOne1), (23, .r rRun3), (25, .r rAro3)]
end Go.Proofs.YtjdcicjhpegphaaGreat
