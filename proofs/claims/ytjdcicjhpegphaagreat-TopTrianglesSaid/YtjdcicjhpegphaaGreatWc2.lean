/- The region around a place: what its parts answer at the example. The examples that TopTangents looks at: the region, the run, and all. The examples that TopTangents looks at: the run of a leg. The examples that TopTangents looks at: what they ask. The region around a place: what it asks at the example. The region around a place: what its parts ask at the example. The region around a place: contracts of its parts at the example. Circles and lines of position: what the functions ask. Circles and lines of position: contracts. The examples that TopTangents looks at: they come out. -/
import Derived.Test.YtjdcicjhpegphaaGreatWb2
import Derived.Test.YtjdcicjhpegphaaGreatGg
set_option linter.unusedSimpArgs false
set_option linter.unusedVariables false
namespace Go.Proofs.YtjdcicjhpegphaaGreat
open Go Go.Abs Go.RowKit Go.Sine
abbrev cel (l r c : Int) : Value := .agg ⟨[.int .i64 l, .int .i64 r, .int .i64 c]⟩
def forceN {α : Type} (n : Nat) (k : Nat → α) : α := match n with | 0 => k 0 | m + 1 => k (m + 1)
def forceI {α : Type} (x : Int) (k : Int → α) : α := match x with | .ofNat n => forceN n fun n => k (.ofNat n) | .negSucc n => forceN n fun n => k (.negSucc n)
theorem forceN_eq {α : Type} (n : Nat) (k : Nat → α) : forceN n k = k n := by cases n <;> rfl
theorem forceI_eq {α : Type} (x : Int) (k : Int → α) : forceI x k = k x := by cases x <;> (unfold forceI; exact forceN_eq _ _)
def ClOk (l r c : Int) : Prop := (0 ≤ l ∧ l ≤ 3) ∧ (0 ≤ r ∧ r < 2 ^ l.toNat) ∧ 0 ≤ c ∧ c < 2 * 2 ^ l.toNat
def sClV : FSpec := fun | [.agg ⟨[.int .i64 l, .int .i64 r, .int .i64 c]⟩] => some (ClOk l r c, .bool true) | _ => none
def bx1 (l r : Int) : Int := edI r l - 5400000
def bx2 (l c : Int) : Int := edI c l - 10800000
def sBox : FSpec := fun | [.agg ⟨[.int .i64 l, .int .i64 r, .int .i64 c]⟩] => forceI l fun l => forceI r fun r => forceI c fun c => some (ClOk l r c, plc (bx1 l r) (bx1 l (r + 1)) (bx2 l c) (bx2 l (c + 1))) | _ => none
def BoOk (z1 z2 z3 z4 a b c d : Int) : Prop := (z1 = 0 ∧ z2 = 0 ∧ z3 = 0 ∧ z4 = 0) ∧ (-5400000 ≤ a ∧ a < b ∧ b ≤ 5400000) ∧ -10800000 ≤ c ∧ c < d ∧ d ≤ 10800000 ∧ d < c + 21600000
def mtB (a b c d : Int) : Bool := decide ((a ≤ 0 ∧ 0 ≤ b) ∧ (c ≤ 0 ∧ 0 ≤ d))
def sMeet : FSpec := fun | [.agg ⟨[.int .i64 z1, .int .i64 z2, .int .i64 z3, .int .i64 z4]⟩, .agg ⟨[.int .i64 a, .int .i64 b, .int .i64 c, .int .i64 d]⟩] => forceI a fun a => forceI b fun b => forceI c fun c => forceI d fun d => some (BoOk z1 z2 z3 z4 a b c d, .bool (mtB a b c d)) | _ => none
def sInsd : FSpec := fun | [.agg ⟨[.int .i64 a, .int .i64 b, .int .i64 c, .int .i64 d]⟩, .agg ⟨[.int .i64 z1, .int .i64 z2, .int .i64 z3, .int .i64 z4]⟩] => some (BoOk z1 z2 z3 z4 a b c d, .bool false) | _ => none
abbrev cET : ET := .pair (.int .i64) (.pair (.int .i64) (.int .i64))
def chL (l r c : Int) : List (Int × Int × Int) := [(l + 1, 2 * r, 2 * c), (l + 1, 2 * r, 2 * c + 1), (l + 1, 2 * r + 1, 2 * c), (l + 1, 2 * r + 1, 2 * c + 1)]
def rChi : RSpec := fun
  | [.one (.v (.agg ⟨[.int .i64 l, .int .i64 r, .int .i64 c]⟩))] => forceI l fun l => forceI r fun r => forceI c fun c => some (ClOk l r c, [.one (.r 111 cET (chL l r c)), .one (.v (num 0))])
  | _ => none
def ΓBx : List (FuncId × CSpec) := [(170, .v sEdge), (144, .v sClV)]
def ΓCh : List (FuncId × CSpec) := [(144, .v sClV)]
def rAr2 : RSpec := fun
  | [.one (.r 23 (.pair (.int .i64) (.int .i64)) xs)] => some (xs = arX, [.agg [.v (num 0), .v (num 0)]])
  | _ => none
def ΓMt : List (FuncId × CSpec) := [(58, .v sPlV), (129, .v sAllB), (150, .v sEvery), (160, .v sBvd), (159, .r rAr2), (63, .v sSgn)]
end Go.Proofs.YtjdcicjhpegphaaGreat
namespace Go.Abs
open Go Go.RowKit
variable {P : Program}
def rcallsN (n : Nat) (P : Program) (Γ : List (FuncId × CSpec)) (A : FuncId → List (Nat × LoopBy)) (f : FuncId) (ads rds : List AD) : Prop :=
  match stCells 0 (flatCD ads) with
  | some (sts, hp) => (match groupAV ads sts with | some args => runX P Γ A n f args hp (retK sts rds) | none => False)
  | none => False
theorem rfn_runN {n : Nat} {Φ : World → Prop} (hst : ∀ w w', Φ w → Below w.heap.size w w' → Φ w') {Γ : List (FuncId × CSpec)} (hΓ : Sound P Φ Γ) {A : FuncId → List (Nat × LoopBy)} {f : FuncId} {ads rds : List AD} (h : rcallsN n P Γ A f ads rds) : RAns P Φ f ads rds := by
  intro w vs cells hw h1 h2
  unfold rcallsN at h
  split at h
  · rename_i sts hp hs
    split at h
    · rename_i args hg
      have hR0 : Rel w.heap.size w (fun _ => none) (hpF []) w := by
        refine ⟨Below.refl _ _, Nat.le_refl _, fun _ _ => rfl, fun i j b x y hi => (by cases hi), fun k b x hk => (by cases hk), fun k x hx => (by simp [hpF] at hx), KeepsOthers.refl _⟩
      obtain ⟨ρ0, _, hR, hr⟩ := stCells_run (B := w.heap.size) (w0 := w) rfl (h0 := []) hR0 (fun i x hx => by simp [hpF] at hx) h2 hs
      have hr1 := (groupAV_run hg h1 hr).rl
      obtain ⟨_, hc⟩ := runX_sound hΓ (B := w.heap.size) (w0 := w) (fun w' hb _ => hst w w' hw hb) (A := A) n f args _ _ w ρ0 vs h hR hr1
      refine hc.mono fun e w' hq => ?_
      obtain ⟨ρ', hp', av, v, he, q1, q2, q3, q4⟩ := hq
      obtain ⟨rvs, rcells, gs, r1, r2, r3, r4⟩ := retK_run q2 q1 hr q3 q4
      exact ⟨q2.below, rvs, rcells, gs, by rw [he, r1], r2, r3, r4⟩
    · exact h.elim
  · exact h.elim
theorem rfn_byN {n : Nat} {Φ : World → Prop} (hst : ∀ w w', Φ w → Below w.heap.size w w' → Φ w') {Γ : List (FuncId × CSpec)} (hΓ : Sound P Φ Γ) {A : FuncId → List (Nat × LoopBy)} {f : FuncId} {ads rds : List AD} {V : Prop} (hv : rcallsN n P Γ A f ads rds = V) (h : V) : RAns P Φ f ads rds :=
  rfn_runN hst hΓ (n := n) (A := A) (by rw [hv]; exact h)
end Go.Abs
namespace Go.Proofs.YtjdcicjhpegphaaGreat
open Go Go.Abs Go.RowKit Go.Sine
def ΓAr3 : List (FuncId × CSpec) := [(58, .v sPlV), (111, .v sBox), (112, .v sMeet), (113, .v sInsd), (115, .r rChi), (144, .v sClV)]
abbrev outL : List (Int × Int × Int) := [(3, 3, 7), (3, 4, 7), (3, 3, 8), (3, 4, 8)]
abbrev lET : ET := .pair (.int .i64) (.pair (.int .i64) (.pair (.int .i64) (.int .i64)))
abbrev legL : List (Int × Int × Int × Int) := [(0, 0, 60000, 60000)]
def ΓRu3 : List (FuncId × CSpec) := [(85, .v sSin6), (94, .v sCos6), (91, .v sFxValid), (86, .v sFxBoth), (133, .v sFxFactor), (134, .v sEnc6), (104, .v sQuo6), (26, .v sAnValid), (63, .v sSgn), (58, .v sPlV)]
def rRun3 : RSpec := fun
  | [.one (.v (.agg ⟨[.int .i64 z1, .int .i64 z2, .int .i64 z3, .int .i64 z4]⟩)), .one (.r 53 (.pair (.int .i64) (.pair (.int .i64) (.pair (.int .i64) (.int .i64)))) xs)] => some ((z1 = 0 ∧ z2 = 0 ∧ z3 = 0 ∧ z4 = 0) ∧ xs = legL, [.agg [.v (num 60000), .v (num 60000), .v (num 0), .v (num 0)], .one (.v (num 0))])
  | _ => none
def Lv3 (z1 z2 z3 z4 n : Int) : Prop := (z1 = 0 ∧ z2 = 0 ∧ z3 = 0 ∧ z4 = 0) ∧ n = 3
def rAro3 : RSpec := fun
  | [.one (.v (.agg ⟨[.int .i64 z1, .int .i64 z2, .int .i64 z3, .int .i64 z4]⟩)), .one (.v (.int .i64 n))] => some (Lv3 z1 z2 z3 z4 n, [.one (.r 111 cET outL), .one (.v (num 0))])
  | _ => none
def ΓWy (X Y : Int) : List (FuncId × CSpec) := [(15, .v (sInv X Y)), (24, .v sAl6), (10, .v sOne1), (23, .r rRun3), (25, .r rAro3)]
end Go.Proofs.YtjdcicjhpegphaaGreat
namespace Go.Proofs.YtjdcicjhpegphaaGreat
open Go Go.Abs Go.RowKit Go.Sine
def Pl4 (l : List Int) : Prop := l = [0, 0, 60000, 60000]
def sPla : FSpec := fun | [.agg ⟨[.int .i64 a, .int .i64 b, .int .i64 c, .int .i64 d]⟩] => some (Pl4 [a, b, c, d], .tuple ⟨[.agg ⟨[num 60000, num 60000]⟩, .agg ⟨[num 0, num 0]⟩, num 0]⟩) | _ => none
def Dl4 (l : List Int) : Prop := l = [0, 60000, 0, 0]
def sDlo : FSpec := fun | [.agg ⟨[.int .i64 a, .int .i64 b]⟩, .agg ⟨[.int .i64 c, .int .i64 d]⟩] => some (Dl4 [a, b, c, d], fxOk 0 0) | _ => none
def ΓRu4 : List (FuncId × CSpec) := [(100, .v sPla), (61, .v sDlo), (26, .v sAnValid), (63, .v sSgn), (58, .v sPlV)]
end Go.Proofs.YtjdcicjhpegphaaGreat
namespace Go.Proofs.YtjdcicjhpegphaaGreat
open Go Go.Abs Go.RowKit Go.Sine
theorem vc_plane6 (K : Value → Prop) : (callsN 20 Tryz.prog ΓRu3 AAd 100 [arc4 0 0 60000 60000] K) = (
 True ∧
 True ∧
 AB0 0 0 ∧
 True ∧
 True ∧
 En1 1073741824 60000 1073741824 ∧
 En1 1073741824 60000 1073741824 ∧
 True ∧
 True ∧
 En1 1073741824 60000 1073741824 ∧
 En1 1073741824 60000 1073741824 ∧
 True ∧
 AB0 0 0 ∧
 True ∧
 True ∧
 En0 0 60000 1073741824 ∧
 En0 0 60000 1073741824 ∧
 True ∧
 True ∧
 En0 0 60000 1073741824 ∧
 En0 0 60000 1073741824 ∧
 True ∧
 K
 (Value.tuple
 #[Value.agg
 #[Value.int IntKind.i64
 (if (if 60000 < 60000 then 60000 else 60000) < if (if 60000 < 60000 then 60000 else 60000) < if 60000 < 60000 then 60000 else 60000 then if 60000 < 60000 then 60000 else 60000 else if 60000 < 60000 then 60000 else 60000 then if 60000 < 60000 then 60000 else 60000
 else if (if 60000 < 60000 then 60000 else 60000) < if 60000 < 60000 then 60000 else 60000 then if 60000 < 60000 then 60000 else 60000 else if 60000 < 60000 then 60000 else 60000),
 Value.int IntKind.i64
 (if (if 60000 > 60000 then 60000 else 60000) > if (if 60000 > 60000 then 60000 else 60000) > if 60000 > 60000 then 60000 else 60000 then if 60000 > 60000 then 60000 else 60000 else if 60000 > 60000 then 60000 else 60000 then if 60000 > 60000 then 60000 else 60000
 else if (if 60000 > 60000 then 60000 else 60000) > if 60000 > 60000 then 60000 else 60000 then if 60000 > 60000 then 60000 else 60000 else if 60000 > 60000 then 60000 else 60000)],
 Value.agg
 #[Value.int IntKind.i64 (if (if 0 < 0 then 0 else 0) < if (if 0 < 0 then 0 else 0) < if 0 < 0 then 0 else 0 then if 0 < 0 then 0 else 0 else if 0 < 0 then 0 else 0 then if 0 < 0 then 0 else 0 else if (if 0 < 0 then 0 else 0) < if 0 < 0 then 0 else 0 then if 0 < 0 then 0 else 0 else if 0 < 0 then 0 else 0),
 Value.int IntKind.i64 (if (if 0 > 0 then 0 else 0) > if (if 0 > 0 then 0 else 0) > if 0 > 0 then 0 else 0 then if 0 > 0 then 0 else 0 else if 0 > 0 then 0 else 0 then if 0 > 0 then 0 else 0 else if (if 0 > 0 then 0 else 0) > if 0 > 0 then 0 else 0 then if 0 > 0 then 0 else 0 else if 0 > 0 then 0 else 0)],
 Value.int IntKind.i64 0])) := by kernel_rfl
theorem vc_dlon6 (K : Value → Prop) : (callsN 20 Tryz.prog ΓRu3 AAd 61 [wid 0 60000, wid 0 0] K) = (
 True ∧ True ∧ AB6 0 60000 ∧ QuP 1073741824 1073741824 1073578287 1073741824 0 ∧ QuP 1073741824 1073741824 1073578287 1073741824 0 ∧ True ∧ K (Value.tuple #[Value.agg #[Value.int IntKind.i64 (if 0 < if 0 < 0 then 0 else 0 then 0 else if 0 < 0 then 0 else 0), Value.int IntKind.i64 (if 0 > if 0 > 0 then 0 else 0 then 0 else if 0 > 0 then 0 else 0)], Value.int IntKind.i64 0])) := by kernel_rfl
theorem vc_run3 (u : Nat) : (rcallsN 20 Tryz.prog ΓRu4 AAd 23 [.one (.v (plc 0 0 0 0)), .one (.r 53 lET [(0, 0, 60000, 60000)])] [.agg [.v (num 60000), .v (num 60000), .v (num 0), .v (num 0)], .one (.v (num 0))]) = (
 True ∧
 True ∧
 Pl4 [([(0, 0, 60000, 60000)].getD 0 (0, 0, 0, 0)).fst, ([(0, 0, 60000, 60000)].getD 0 (0, 0, 0, 0)).snd.fst, ([(0, 0, 60000, 60000)].getD 0 (0, 0, 0, 0)).snd.snd.fst, ([(0, 0, 60000, 60000)].getD 0 (0, 0, 0, 0)).snd.snd.snd] ∧
 Dl4 [if IntKind.i64.wrap (0 + 60000) < 0 then IntKind.i64.wrap (0 + 60000) else 0, if IntKind.i64.wrap (0 + 60000) > 0 then IntKind.i64.wrap (0 + 60000) else 0, IntKind.i64.wrap (0 + if 0 > 0 then 0 else 0), IntKind.i64.wrap (0 + if 0 > 0 then 0 else 0)] ∧
 True ∧
 True ∧
 Dl4 [if IntKind.i64.wrap (0 + 60000) < 0 then IntKind.i64.wrap (0 + 60000) else 0, if IntKind.i64.wrap (0 + 60000) > 0 then IntKind.i64.wrap (0 + 60000) else 0, IntKind.i64.wrap (0 + if 0 < 0 then 0 else 0), IntKind.i64.wrap (0 + if 0 < 0 then 0 else 0)] ∧
 True ∧
 True ∧
 True ∧
 Value.int IntKind.i64 (IntKind.i64.wrap (0 + 60000)) = Value.int IntKind.i64 60000 ∧
 Value.int IntKind.i64 (IntKind.i64.wrap (0 + 60000)) = Value.int IntKind.i64 60000 ∧
 Value.int IntKind.i64 (sgI (IntKind.i64.wrap (IntKind.i64.wrap (0 + 0) + 0))) = Value.int IntKind.i64 0 ∧
 Value.int IntKind.i64 (IntKind.i64.wrap (IntKind.i64.wrap (sgI (IntKind.i64.wrap (IntKind.i64.wrap (0 + 0) + 0)) + IntKind.i64.wrap (IntKind.i64.wrap (0 + 0) + 0)) - IntKind.i64.wrap (IntKind.i64.wrap (0 + 0) + 0))) = Value.int IntKind.i64 0 ∧ Value.int IntKind.i64 0 = Value.int IntKind.i64 0 ∧ True) := by kernel_rfl
theorem vc_wayawake (X Y : Int) (K : Value → Prop) : callsX Tryz.prog (ΓWy X Y) (noAnn) 5 [] K = (
 P6 [0, 0, 0, 3600000] ∧ True ∧ ((Int.ofNat 0 = 0 ∧ Int.ofNat 0 = 0 ∧ Int.ofNat 0 = 0 ∧ Int.ofNat 0 = 0) ∧ [(0, 0, 60000, 60000)] = legL) ∧ True ∧ L6 [0, 0, 0, 0, 3600000, 3600000] ∧ Lv3 0 0 0 0 3 ∧ True ∧ True ∧ True ∧ K (Value.bool (decide ((↑4 : Int) > 0)))) := by kernel_rfl
end Go.Proofs.YtjdcicjhpegphaaGreat
namespace Go.Proofs.YtjdcicjhpegphaaGreat
open Go Go.Abs Go.RowKit Go.Sine
theorem vc_around3 (u : Nat) : (rcallsN 40 Tryz.prog ΓAr3 AAd 25 [.one (.v (plc 0 0 0 0)), .one (.v (num 3))] [.one (.r 111 cET [(3, 3, 7), (3, 4, 7), (3, 3, 8), (3, 4, 8)]), .one (.v (num 0))]) = (
 True ∧
 ClOk (Int.ofNat 0) (Int.ofNat 0) (Int.ofNat 0) ∧
 BoOk 0 0 0 0 (Int.negSucc 5399999) (Int.ofNat 5400000) (Int.negSucc 10799999) (Int.ofNat 0) ∧
 BoOk 0 0 0 0 (bx1 (Int.ofNat 0) (Int.ofNat 0)) (bx1 (Int.ofNat 0) (Int.ofNat 0 + 1)) (bx2 (Int.ofNat 0) (Int.ofNat 0)) (bx2 (Int.ofNat 0) (Int.ofNat 0 + 1)) ∧
 ClOk (Int.ofNat 0) (Int.ofNat 0) (Int.ofNat 0) ∧
 ClOk (Int.ofNat 1) (Int.ofNat 0) (Int.ofNat 0) ∧
 BoOk 0 0 0 0 (Int.negSucc 5399999) (Int.ofNat 0) (Int.negSucc 10799999) (Int.negSucc 5399999) ∧
 ClOk (Int.ofNat 1) (Int.ofNat 0) (Int.ofNat 1) ∧
 BoOk 0 0 0 0 (Int.negSucc 5399999) (Int.ofNat 0) (Int.negSucc 5399999) (Int.ofNat 0) ∧
 BoOk 0 0 0 0 (bx1 (Int.ofNat 1) (Int.ofNat 0)) (bx1 (Int.ofNat 1) (Int.ofNat 0 + 1)) (bx2 (Int.ofNat 1) (Int.ofNat 1)) (bx2 (Int.ofNat 1) (Int.ofNat 1 + 1)) ∧
 ClOk (Int.ofNat 1) (Int.ofNat 0) (Int.ofNat 1) ∧
 ClOk (Int.ofNat 2) (Int.ofNat 0) (Int.ofNat 2) ∧
 BoOk 0 0 0 0 (Int.negSucc 5399999) (Int.negSucc 2699999) (Int.negSucc 5399999) (Int.negSucc 2699999) ∧
 ClOk (Int.ofNat 2) (Int.ofNat 0) (Int.ofNat 3) ∧
 BoOk 0 0 0 0 (Int.negSucc 5399999) (Int.negSucc 2699999) (Int.negSucc 2699999) (Int.ofNat 0) ∧
 ClOk (Int.ofNat 2) (Int.ofNat 1) (Int.ofNat 2) ∧
 BoOk 0 0 0 0 (Int.negSucc 2699999) (Int.ofNat 0) (Int.negSucc 5399999) (Int.negSucc 2699999) ∧
 ClOk (Int.ofNat 2) (Int.ofNat 1) (Int.ofNat 3) ∧
 BoOk 0 0 0 0 (Int.negSucc 2699999) (Int.ofNat 0) (Int.negSucc 2699999) (Int.ofNat 0) ∧
 BoOk 0 0 0 0 (bx1 (Int.ofNat 2) (Int.ofNat 1)) (bx1 (Int.ofNat 2) (Int.ofNat 1 + 1)) (bx2 (Int.ofNat 2) (Int.ofNat 3)) (bx2 (Int.ofNat 2) (Int.ofNat 3 + 1)) ∧
 ClOk (Int.ofNat 2) (Int.ofNat 1) (Int.ofNat 3) ∧
 ClOk (Int.ofNat 3) (Int.ofNat 2) (Int.ofNat 6) ∧
 BoOk 0 0 0 0 (Int.negSucc 2699999) (Int.negSucc 1349999) (Int.negSucc 2699999) (Int.negSucc 1349999) ∧
 ClOk (Int.ofNat 3) (Int.ofNat 2) (Int.ofNat 7) ∧
 BoOk 0 0 0 0 (Int.negSucc 2699999) (Int.negSucc 1349999) (Int.negSucc 1349999) (Int.ofNat 0) ∧
 ClOk (Int.ofNat 3) (Int.ofNat 3) (Int.ofNat 6) ∧
 BoOk 0 0 0 0 (Int.negSucc 1349999) (Int.ofNat 0) (Int.negSucc 2699999) (Int.negSucc 1349999) ∧
 ClOk (Int.ofNat 3) (Int.ofNat 3) (Int.ofNat 7) ∧
 BoOk 0 0 0 0 (Int.negSucc 1349999) (Int.ofNat 0) (Int.negSucc 1349999) (Int.ofNat 0) ∧
 ClOk (Int.ofNat 1) (Int.ofNat 1) (Int.ofNat 0) ∧
 BoOk 0 0 0 0 (Int.ofNat 0) (Int.ofNat 5400000) (Int.negSucc 10799999) (Int.negSucc 5399999) ∧
 ClOk (Int.ofNat 1) (Int.ofNat 1) (Int.ofNat 1) ∧
 BoOk 0 0 0 0 (Int.ofNat 0) (Int.ofNat 5400000) (Int.negSucc 5399999) (Int.ofNat 0) ∧
 BoOk 0 0 0 0 (bx1 (Int.ofNat 1) (Int.ofNat 1)) (bx1 (Int.ofNat 1) (Int.ofNat 1 + 1)) (bx2 (Int.ofNat 1) (Int.ofNat 1)) (bx2 (Int.ofNat 1) (Int.ofNat 1 + 1)) ∧
 ClOk (Int.ofNat 1) (Int.ofNat 1) (Int.ofNat 1) ∧
 ClOk (Int.ofNat 2) (Int.ofNat 2) (Int.ofNat 2) ∧
 BoOk 0 0 0 0 (Int.ofNat 0) (Int.ofNat 2700000) (Int.negSucc 5399999) (Int.negSucc 2699999) ∧
 ClOk (Int.ofNat 2) (Int.ofNat 2) (Int.ofNat 3) ∧
 BoOk 0 0 0 0 (Int.ofNat 0) (Int.ofNat 2700000) (Int.negSucc 2699999) (Int.ofNat 0) ∧
 BoOk 0 0 0 0 (bx1 (Int.ofNat 2) (Int.ofNat 2)) (bx1 (Int.ofNat 2) (Int.ofNat 2 + 1)) (bx2 (Int.ofNat 2) (Int.ofNat 3)) (bx2 (Int.ofNat 2) (Int.ofNat 3 + 1)) ∧
 ClOk (Int.ofNat 2) (Int.ofNat 2) (Int.ofNat 3) ∧
 ClOk (Int.ofNat 3) (Int.ofNat 4) (Int.ofNat 6) ∧
 BoOk 0 0 0 0 (Int.ofNat 0) (Int.ofNat 1350000) (Int.negSucc 2699999) (Int.negSucc 1349999) ∧
 ClOk (Int.ofNat 3) (Int.ofNat 4) (Int.ofNat 7) ∧
 BoOk 0 0 0 0 (Int.ofNat 0) (Int.ofNat 1350000) (Int.negSucc 1349999) (Int.ofNat 0) ∧
 1 = 1 ∧
 ClOk (Int.ofNat 3) (Int.ofNat 5) (Int.ofNat 6) ∧
 BoOk 0 0 0 0 (Int.ofNat 1350000) (Int.ofNat 2700000) (Int.negSucc 2699999) (Int.negSucc 1349999) ∧
 ClOk (Int.ofNat 3) (Int.ofNat 5) (Int.ofNat 7) ∧
 BoOk 0 0 0 0 (Int.ofNat 1350000) (Int.ofNat 2700000) (Int.negSucc 1349999) (Int.ofNat 0) ∧
 ClOk (Int.ofNat 2) (Int.ofNat 3) (Int.ofNat 2) ∧
 BoOk 0 0 0 0 (Int.ofNat 2700000) (Int.ofNat 5400000) (Int.negSucc 5399999) (Int.negSucc 2699999) ∧
 ClOk (Int.ofNat 2) (Int.ofNat 3) (Int.ofNat 3) ∧
 BoOk 0 0 0 0 (Int.ofNat 2700000) (Int.ofNat 5400000) (Int.negSucc 2699999) (Int.ofNat 0) ∧
 ClOk (Int.ofNat 0) (Int.ofNat 0) (Int.ofNat 1) ∧
 BoOk 0 0 0 0 (Int.negSucc 5399999) (Int.ofNat 5400000) (Int.ofNat 0) (Int.ofNat 10800000) ∧
 BoOk 0 0 0 0 (bx1 (Int.ofNat 0) (Int.ofNat 0)) (bx1 (Int.ofNat 0) (Int.ofNat 0 + 1)) (bx2 (Int.ofNat 0) (Int.ofNat 1)) (bx2 (Int.ofNat 0) (Int.ofNat 1 + 1)) ∧
 ClOk (Int.ofNat 0) (Int.ofNat 0) (Int.ofNat 1) ∧
 ClOk (Int.ofNat 1) (Int.ofNat 0) (Int.ofNat 2) ∧
 BoOk 0 0 0 0 (Int.negSucc 5399999) (Int.ofNat 0) (Int.ofNat 0) (Int.ofNat 5400000) ∧
 BoOk 0 0 0 0 (bx1 (Int.ofNat 1) (Int.ofNat 0)) (bx1 (Int.ofNat 1) (Int.ofNat 0 + 1)) (bx2 (Int.ofNat 1) (Int.ofNat 2)) (bx2 (Int.ofNat 1) (Int.ofNat 2 + 1)) ∧
 ClOk (Int.ofNat 1) (Int.ofNat 0) (Int.ofNat 2) ∧
 ClOk (Int.ofNat 2) (Int.ofNat 0) (Int.ofNat 4) ∧
 BoOk 0 0 0 0 (Int.negSucc 5399999) (Int.negSucc 2699999) (Int.ofNat 0) (Int.ofNat 2700000) ∧
 ClOk (Int.ofNat 2) (Int.ofNat 0) (Int.ofNat 5) ∧
 BoOk 0 0 0 0 (Int.negSucc 5399999) (Int.negSucc 2699999) (Int.ofNat 2700000) (Int.ofNat 5400000) ∧
 ClOk (Int.ofNat 2) (Int.ofNat 1) (Int.ofNat 4) ∧
 BoOk 0 0 0 0 (Int.negSucc 2699999) (Int.ofNat 0) (Int.ofNat 0) (Int.ofNat 2700000) ∧
 BoOk 0 0 0 0 (bx1 (Int.ofNat 2) (Int.ofNat 1)) (bx1 (Int.ofNat 2) (Int.ofNat 1 + 1)) (bx2 (Int.ofNat 2) (Int.ofNat 4)) (bx2 (Int.ofNat 2) (Int.ofNat 4 + 1)) ∧
 ClOk (Int.ofNat 2) (Int.ofNat 1) (Int.ofNat 4) ∧
 ClOk (Int.ofNat 3) (Int.ofNat 2) (Int.ofNat 8) ∧
 BoOk 0 0 0 0 (Int.negSucc 2699999) (Int.negSucc 1349999) (Int.ofNat 0) (Int.ofNat 1350000) ∧
 ClOk (Int.ofNat 3) (Int.ofNat 2) (Int.ofNat 9) ∧
 BoOk 0 0 0 0 (Int.negSucc 2699999) (Int.negSucc 1349999) (Int.ofNat 1350000) (Int.ofNat 2700000) ∧
 ClOk (Int.ofNat 3) (Int.ofNat 3) (Int.ofNat 8) ∧
 BoOk 0 0 0 0 (Int.negSucc 1349999) (Int.ofNat 0) (Int.ofNat 0) (Int.ofNat 1350000) ∧
 2 = 2 ∧
 ClOk (Int.ofNat 3) (Int.ofNat 3) (Int.ofNat 9) ∧
 BoOk 0 0 0 0 (Int.negSucc 1349999) (Int.ofNat 0) (Int.ofNat 1350000) (Int.ofNat 2700000) ∧
 ClOk (Int.ofNat 2) (Int.ofNat 1) (Int.ofNat 5) ∧
 BoOk 0 0 0 0 (Int.negSucc 2699999) (Int.ofNat 0) (Int.ofNat 2700000) (Int.ofNat 5400000) ∧
 ClOk (Int.ofNat 1) (Int.ofNat 0) (Int.ofNat 3) ∧
 BoOk 0 0 0 0 (Int.negSucc 5399999) (Int.ofNat 0) (Int.ofNat 5400000) (Int.ofNat 10800000) ∧
 ClOk (Int.ofNat 1) (Int.ofNat 1) (Int.ofNat 2) ∧
 BoOk 0 0 0 0 (Int.ofNat 0) (Int.ofNat 5400000) (Int.ofNat 0) (Int.ofNat 5400000) ∧
 BoOk 0 0 0 0 (bx1 (Int.ofNat 1) (Int.ofNat 1)) (bx1 (Int.ofNat 1) (Int.ofNat 1 + 1)) (bx2 (Int.ofNat 1) (Int.ofNat 2)) (bx2 (Int.ofNat 1) (Int.ofNat 2 + 1)) ∧
 ClOk (Int.ofNat 1) (Int.ofNat 1) (Int.ofNat 2) ∧
 ClOk (Int.ofNat 2) (Int.ofNat 2) (Int.ofNat 4) ∧
 BoOk 0 0 0 0 (Int.ofNat 0) (Int.ofNat 2700000) (Int.ofNat 0) (Int.ofNat 2700000) ∧
 BoOk 0 0 0 0 (bx1 (Int.ofNat 2) (Int.ofNat 2)) (bx1 (Int.ofNat 2) (Int.ofNat 2 + 1)) (bx2 (Int.ofNat 2) (Int.ofNat 4)) (bx2 (Int.ofNat 2) (Int.ofNat 4 + 1)) ∧
 ClOk (Int.ofNat 2) (Int.ofNat 2) (Int.ofNat 4) ∧
 ClOk (Int.ofNat 3) (Int.ofNat 4) (Int.ofNat 8) ∧
 BoOk 0 0 0 0 (Int.ofNat 0) (Int.ofNat 1350000) (Int.ofNat 0) (Int.ofNat 1350000) ∧
 3 = 3 ∧
 ClOk
 ([(((chL (Int.ofNat 2) (Int.ofNat 1) (Int.ofNat 3)).getD 3 (0, 0, 0)).fst, ((chL (Int.ofNat 2) (Int.ofNat 1) (Int.ofNat 3)).getD 3 (0, 0, 0)).snd.fst, ((chL (Int.ofNat 2) (Int.ofNat 1) (Int.ofNat 3)).getD 3 (0, 0, 0)).snd.snd),
 (((chL (Int.ofNat 2) (Int.ofNat 2) (Int.ofNat 3)).getD 1 (0, 0, 0)).fst, ((chL (Int.ofNat 2) (Int.ofNat 2) (Int.ofNat 3)).getD 1 (0, 0, 0)).snd.fst, ((chL (Int.ofNat 2) (Int.ofNat 2) (Int.ofNat 3)).getD 1 (0, 0, 0)).snd.snd),
 (((chL (Int.ofNat 2) (Int.ofNat 1) (Int.ofNat 4)).getD 2 (0, 0, 0)).fst, ((chL (Int.ofNat 2) (Int.ofNat 1) (Int.ofNat 4)).getD 2 (0, 0, 0)).snd.fst, ((chL (Int.ofNat 2) (Int.ofNat 1) (Int.ofNat 4)).getD 2 (0, 0, 0)).snd.snd),
 (((chL (Int.ofNat 2) (Int.ofNat 2) (Int.ofNat 4)).getD 0 (0, 0, 0)).fst, ((chL (Int.ofNat 2) (Int.ofNat 2) (Int.ofNat 4)).getD 0 (0, 0, 0)).snd.fst, ((chL (Int.ofNat 2) (Int.ofNat 2) (Int.ofNat 4)).getD 0 (0, 0, 0)).snd.snd)].getD
 0 (0, 0, 0)).fst
 ([(((chL (Int.ofNat 2) (Int.ofNat 1) (Int.ofNat 3)).getD 3 (0, 0, 0)).fst, ((chL (Int.ofNat 2) (Int.ofNat 1) (Int.ofNat 3)).getD 3 (0, 0, 0)).snd.fst, ((chL (Int.ofNat 2) (Int.ofNat 1) (Int.ofNat 3)).getD 3 (0, 0, 0)).snd.snd),
 (((chL (Int.ofNat 2) (Int.ofNat 2) (Int.ofNat 3)).getD 1 (0, 0, 0)).fst, ((chL (Int.ofNat 2) (Int.ofNat 2) (Int.ofNat 3)).getD 1 (0, 0, 0)).snd.fst, ((chL (Int.ofNat 2) (Int.ofNat 2) (Int.ofNat 3)).getD 1 (0, 0, 0)).snd.snd),
 (((chL (Int.ofNat 2) (Int.ofNat 1) (Int.ofNat 4)).getD 2 (0, 0, 0)).fst, ((chL (Int.ofNat 2) (Int.ofNat 1) (Int.ofNat 4)).getD 2 (0, 0, 0)).snd.fst, ((chL (Int.ofNat 2) (Int.ofNat 1) (Int.ofNat 4)).getD 2 (0, 0, 0)).snd.snd),
 (((chL (Int.ofNat 2) (Int.ofNat 2) (Int.ofNat 4)).getD 0 (0, 0, 0)).fst, ((chL (Int.ofNat 2) (Int.ofNat 2) (Int.ofNat 4)).getD 0 (0, 0, 0)).snd.fst, ((chL (Int.ofNat 2) (Int.ofNat 2) (Int.ofNat 4)).getD 0 (0, 0, 0)).snd.snd)].getD
 0 (0, 0, 0)).snd.fst
 ([(((chL (Int.ofNat 2) (Int.ofNat 1) (Int.ofNat 3)).getD 3 (0, 0, 0)).fst, ((chL (Int.ofNat 2) (Int.ofNat 1) (Int.ofNat 3)).getD 3 (0, 0, 0)).snd.fst, ((chL (Int.ofNat 2) (Int.ofNat 1) (Int.ofNat 3)).getD 3 (0, 0, 0)).snd.snd),
 (((chL (Int.ofNat 2) (Int.ofNat 2) (Int.ofNat 3)).getD 1 (0, 0, 0)).fst, ((chL (Int.ofNat 2) (Int.ofNat 2) (Int.ofNat 3)).getD 1 (0, 0, 0)).snd.fst, ((chL (Int.ofNat 2) (Int.ofNat 2) (Int.ofNat 3)).getD 1 (0, 0, 0)).snd.snd),
 (((chL (Int.ofNat 2) (Int.ofNat 1) (Int.ofNat 4)).getD 2 (0, 0, 0)).fst, ((chL (Int.ofNat 2) (Int.ofNat 1) (Int.ofNat 4)).getD 2 (0, 0, 0)).snd.fst, ((chL (Int.ofNat 2) (Int.ofNat 1) (Int.ofNat 4)).getD 2 (0, 0, 0)).snd.snd),
 (((chL (Int.ofNat 2) (Int.ofNat 2) (Int.ofNat 4)).getD 0 (0, 0, 0)).fst, ((chL (Int.ofNat 2) (Int.ofNat 2) (Int.ofNat 4)).getD 0 (0, 0, 0)).snd.fst, ((chL (Int.ofNat 2) (Int.ofNat 2) (Int.ofNat 4)).getD 0 (0, 0, 0)).snd.snd)].getD
 0 (0, 0, 0)).snd.snd ∧
 ClOk (Int.ofNat 2) (Int.ofNat 1) (Int.ofNat 3) ∧
 ClOk (Int.ofNat 3) (Int.ofNat 4) (Int.ofNat 9) ∧
 BoOk 0 0 0 0 (Int.ofNat 0) (Int.ofNat 1350000) (Int.ofNat 1350000) (Int.ofNat 2700000) ∧
 ClOk (Int.ofNat 3) (Int.ofNat 5) (Int.ofNat 8) ∧
 BoOk 0 0 0 0 (Int.ofNat 1350000) (Int.ofNat 2700000) (Int.ofNat 0) (Int.ofNat 1350000) ∧
 ClOk (Int.ofNat 3) (Int.ofNat 5) (Int.ofNat 9) ∧
 BoOk 0 0 0 0 (Int.ofNat 1350000) (Int.ofNat 2700000) (Int.ofNat 1350000) (Int.ofNat 2700000) ∧
 ClOk (Int.ofNat 2) (Int.ofNat 2) (Int.ofNat 5) ∧
 BoOk 0 0 0 0 (Int.ofNat 0) (Int.ofNat 2700000) (Int.ofNat 2700000) (Int.ofNat 5400000) ∧
 ClOk (Int.ofNat 2) (Int.ofNat 3) (Int.ofNat 4) ∧
 BoOk 0 0 0 0 (Int.ofNat 2700000) (Int.ofNat 5400000) (Int.ofNat 0) (Int.ofNat 2700000) ∧
 ClOk (Int.ofNat 2) (Int.ofNat 3) (Int.ofNat 5) ∧
 BoOk 0 0 0 0 (Int.ofNat 2700000) (Int.ofNat 5400000) (Int.ofNat 2700000) (Int.ofNat 5400000) ∧
 ClOk (Int.ofNat 1) (Int.ofNat 1) (Int.ofNat 3) ∧
 BoOk 0 0 0 0 (Int.ofNat 0) (Int.ofNat 5400000) (Int.ofNat 5400000) (Int.ofNat 10800000) ∧
 4 = 4 ∧
 [(((chL (Int.ofNat 2) (Int.ofNat 1) (Int.ofNat 3)).getD 3 (0, 0, 0)).fst, ((chL (Int.ofNat 2) (Int.ofNat 1) (Int.ofNat 3)).getD 3 (0, 0, 0)).snd.fst, ((chL (Int.ofNat 2) (Int.ofNat 1) (Int.ofNat 3)).getD 3 (0, 0, 0)).snd.snd),
 (((chL (Int.ofNat 2) (Int.ofNat 2) (Int.ofNat 3)).getD 1 (0, 0, 0)).fst, ((chL (Int.ofNat 2) (Int.ofNat 2) (Int.ofNat 3)).getD 1 (0, 0, 0)).snd.fst, ((chL (Int.ofNat 2) (Int.ofNat 2) (Int.ofNat 3)).getD 1 (0, 0, 0)).snd.snd),
 (((chL (Int.ofNat 2) (Int.ofNat 1) (Int.ofNat 4)).getD 2 (0, 0, 0)).fst, ((chL (Int.ofNat 2) (Int.ofNat 1) (Int.ofNat 4)).getD 2 (0, 0, 0)).snd.fst, ((chL (Int.ofNat 2) (Int.ofNat 1) (Int.ofNat 4)).getD 2 (0, 0, 0)).snd.snd),
 (((chL (Int.ofNat 2) (Int.ofNat 2) (Int.ofNat 4)).getD 0 (0, 0, 0)).fst, ((chL (Int.ofNat 2) (Int.ofNat 2) (Int.ofNat 4)).getD 0 (0, 0, 0)).snd.fst, ((chL (Int.ofNat 2) (Int.ofNat 2) (Int.ofNat 4)).getD 0 (0, 0, 0)).snd.snd)] =
 [(3, 3, 7), (3, 4, 7), (3, 3, 8), (3, 4, 8)] ∧
 Value.int IntKind.i64 0 = Value.int IntKind.i64 0 ∧ True) := by kernel_rfl
end Go.Proofs.YtjdcicjhpegphaaGreat
namespace Go.Proofs.YtjdcicjhpegphaaGreat
open Go Go.Abs Go.RowKit Go.Sine
theorem vc_clvalid (l r c : Int) (K : Value → Prop) : callsX Tryz.prog ([]) (noAnn) 144 [cel l r c] K = (
 bcase (decide (l ≥ 0)) (bcase (decide (l ≤ 16)) (bcase (decide (r ≥ 0)) (bcase (decide (l < 0)) False (bcase (decide (r < IntKind.i64.wrap (1 * 2 ^ min l.toNat 64))) (bcase (decide (c ≥ 0)) (bcase (decide (l < 0)) False (K (Value.bool (decide (c < IntKind.i64.wrap (2 * 2 ^ min l.toNat 64)))))) (K (Value.bool false))) (K (Value.bool false)))) (K (Value.bool false))) (K (Value.bool false)))
 (K (Value.bool false))) := by kernel_rfl
theorem vc_rgbox (l r c : Int) (K : Value → Prop) : callsX Tryz.prog (ΓBx) (noAnn) 111 [cel l r c] K = (
 ClOk l r c ∧
 EdOk r l ∧
 EdOk (IntKind.i64.wrap (r + 1)) l ∧ EdOk c l ∧ EdOk (IntKind.i64.wrap (c + 1)) l ∧ K (Value.agg #[Value.int IntKind.i64 (IntKind.i64.wrap (edI r l - 5400000)), Value.int IntKind.i64 (IntKind.i64.wrap (edI (IntKind.i64.wrap (r + 1)) l - 5400000)), Value.int IntKind.i64 (IntKind.i64.wrap (edI c l - 10800000)), Value.int IntKind.i64 (IntKind.i64.wrap (edI (IntKind.i64.wrap (c + 1)) l - 10800000))])) := by kernel_rfl
theorem vc_rgmeets (a b c d : Int) (K : Value → Prop) : callsX Tryz.prog (ΓMt) (AAd) 112 [plc 0 0 0 0, plc a b c d] K = (
 True ∧
 True ∧
 bcase (!decide (LatV a b ∧ LonP c d)) (K (Value.bool (1 == 0)))
 (True ∧
 True ∧
 bcase (allB c d) (bcase (decide ((if a > 0 then a else 0) > if b < 0 then b else 0)) (K (Value.bool (23 == 0))) ([(0, 0)] = arX ∧ K (Value.bool (0 == 0))))
 (BvOk 0 c ∧
 BvOk 0 c ∧
 bcase (decide ((if wrI (c - 0) > 0 then wrI (c - 0) else 0) ≤ if IntKind.i64.wrap (IntKind.i64.wrap (wrI (c - 0) + d) - c) < IntKind.i64.wrap (0 - 0) then IntKind.i64.wrap (IntKind.i64.wrap (wrI (c - 0) + d) - c) else IntKind.i64.wrap (0 - 0)))
 (True ∧
 bcase (decide ((if IntKind.i64.wrap (wrI (c - 0) - 21600000) > 0 then IntKind.i64.wrap (wrI (c - 0) - 21600000) else 0) ≤ if IntKind.i64.wrap (IntKind.i64.wrap (IntKind.i64.wrap (wrI (c - 0) - 21600000) + d) - c) < IntKind.i64.wrap (0 - 0) then IntKind.i64.wrap (IntKind.i64.wrap (IntKind.i64.wrap (wrI (c - 0) - 21600000) + d) - c) else IntKind.i64.wrap (0 - 0)))
 (True ∧
 1 =
 [(sgI (IntKind.i64.wrap (0 + if wrI (c - 0) > 0 then wrI (c - 0) else 0)),
 IntKind.i64.wrap (IntKind.i64.wrap (sgI (IntKind.i64.wrap (0 + if wrI (c - 0) > 0 then wrI (c - 0) else 0)) + if IntKind.i64.wrap (IntKind.i64.wrap (wrI (c - 0) + d) - c) < IntKind.i64.wrap (0 - 0) then IntKind.i64.wrap (IntKind.i64.wrap (wrI (c - 0) + d) - c) else IntKind.i64.wrap (0 - 0)) - if wrI (c - 0) > 0 then wrI (c - 0) else 0))].length ∧
 bcase (decide ((if a > 0 then a else 0) > if b < 0 then b else 0)) (K (Value.bool (23 == 0)))
 ([(sgI (IntKind.i64.wrap (0 + if wrI (c - 0) > 0 then wrI (c - 0) else 0)),
 IntKind.i64.wrap (IntKind.i64.wrap (sgI (IntKind.i64.wrap (0 + if wrI (c - 0) > 0 then wrI (c - 0) else 0)) + if IntKind.i64.wrap (IntKind.i64.wrap (wrI (c - 0) + d) - c) < IntKind.i64.wrap (0 - 0) then IntKind.i64.wrap (IntKind.i64.wrap (wrI (c - 0) + d) - c) else IntKind.i64.wrap (0 - 0)) - if wrI (c - 0) > 0 then wrI (c - 0) else 0))].length +
 1 =
 [(sgI (IntKind.i64.wrap (0 + if wrI (c - 0) > 0 then wrI (c - 0) else 0)),
 IntKind.i64.wrap (IntKind.i64.wrap (sgI (IntKind.i64.wrap (0 + if wrI (c - 0) > 0 then wrI (c - 0) else 0)) + if IntKind.i64.wrap (IntKind.i64.wrap (wrI (c - 0) + d) - c) < IntKind.i64.wrap (0 - 0) then IntKind.i64.wrap (IntKind.i64.wrap (wrI (c - 0) + d) - c) else IntKind.i64.wrap (0 - 0)) - if wrI (c - 0) > 0 then wrI (c - 0) else 0)),
 (sgI (IntKind.i64.wrap (0 + if IntKind.i64.wrap (wrI (c - 0) - 21600000) > 0 then IntKind.i64.wrap (wrI (c - 0) - 21600000) else 0)),
 IntKind.i64.wrap
 (IntKind.i64.wrap (sgI (IntKind.i64.wrap (0 + if IntKind.i64.wrap (wrI (c - 0) - 21600000) > 0 then IntKind.i64.wrap (wrI (c - 0) - 21600000) else 0)) + if IntKind.i64.wrap (IntKind.i64.wrap (IntKind.i64.wrap (wrI (c - 0) - 21600000) + d) - c) < IntKind.i64.wrap (0 - 0) then IntKind.i64.wrap (IntKind.i64.wrap (IntKind.i64.wrap (wrI (c - 0) - 21600000) + d) - c) else IntKind.i64.wrap (0 - 0)) -
 if IntKind.i64.wrap (wrI (c - 0) - 21600000) > 0 then IntKind.i64.wrap (wrI (c - 0) - 21600000) else 0))].length ∧
 ∀ (z : List (Int × Int)),
 z =
 [(sgI (IntKind.i64.wrap (0 + if wrI (c - 0) > 0 then wrI (c - 0) else 0)),
 IntKind.i64.wrap (IntKind.i64.wrap (sgI (IntKind.i64.wrap (0 + if wrI (c - 0) > 0 then wrI (c - 0) else 0)) + if IntKind.i64.wrap (IntKind.i64.wrap (wrI (c - 0) + d) - c) < IntKind.i64.wrap (0 - 0) then IntKind.i64.wrap (IntKind.i64.wrap (wrI (c - 0) + d) - c) else IntKind.i64.wrap (0 - 0)) - if wrI (c - 0) > 0 then wrI (c - 0) else 0)),
 (sgI (IntKind.i64.wrap (0 + if IntKind.i64.wrap (wrI (c - 0) - 21600000) > 0 then IntKind.i64.wrap (wrI (c - 0) - 21600000) else 0)),
 IntKind.i64.wrap
 (IntKind.i64.wrap (sgI (IntKind.i64.wrap (0 + if IntKind.i64.wrap (wrI (c - 0) - 21600000) > 0 then IntKind.i64.wrap (wrI (c - 0) - 21600000) else 0)) + if IntKind.i64.wrap (IntKind.i64.wrap (IntKind.i64.wrap (wrI (c - 0) - 21600000) + d) - c) < IntKind.i64.wrap (0 - 0) then IntKind.i64.wrap (IntKind.i64.wrap (IntKind.i64.wrap (wrI (c - 0) - 21600000) + d) - c) else IntKind.i64.wrap (0 - 0)) -
 if IntKind.i64.wrap (wrI (c - 0) - 21600000) > 0 then IntKind.i64.wrap (wrI (c - 0) - 21600000) else 0))] →
 z = arX ∧ K (Value.bool (0 == 0))))
 (bcase (decide ((if a > 0 then a else 0) > if b < 0 then b else 0)) (K (Value.bool (23 == 0)))
 (1 =
 [(sgI (IntKind.i64.wrap (0 + if wrI (c - 0) > 0 then wrI (c - 0) else 0)),
 IntKind.i64.wrap (IntKind.i64.wrap (sgI (IntKind.i64.wrap (0 + if wrI (c - 0) > 0 then wrI (c - 0) else 0)) + if IntKind.i64.wrap (IntKind.i64.wrap (wrI (c - 0) + d) - c) < IntKind.i64.wrap (0 - 0) then IntKind.i64.wrap (IntKind.i64.wrap (wrI (c - 0) + d) - c) else IntKind.i64.wrap (0 - 0)) - if wrI (c - 0) > 0 then wrI (c - 0) else 0))].length ∧
 ∀ (z : List (Int × Int)),
 z =
 [(sgI (IntKind.i64.wrap (0 + if wrI (c - 0) > 0 then wrI (c - 0) else 0)),
 IntKind.i64.wrap (IntKind.i64.wrap (sgI (IntKind.i64.wrap (0 + if wrI (c - 0) > 0 then wrI (c - 0) else 0)) + if IntKind.i64.wrap (IntKind.i64.wrap (wrI (c - 0) + d) - c) < IntKind.i64.wrap (0 - 0) then IntKind.i64.wrap (IntKind.i64.wrap (wrI (c - 0) + d) - c) else IntKind.i64.wrap (0 - 0)) - if wrI (c - 0) > 0 then wrI (c - 0) else 0))] →
 z = arX ∧ K (Value.bool (0 == 0)))))
 (bcase (decide ((if IntKind.i64.wrap (wrI (c - 0) - 21600000) > 0 then IntKind.i64.wrap (wrI (c - 0) - 21600000) else 0) ≤ if IntKind.i64.wrap (IntKind.i64.wrap (IntKind.i64.wrap (wrI (c - 0) - 21600000) + d) - c) < IntKind.i64.wrap (0 - 0) then IntKind.i64.wrap (IntKind.i64.wrap (IntKind.i64.wrap (wrI (c - 0) - 21600000) + d) - c) else IntKind.i64.wrap (0 - 0)))
 (True ∧
 bcase (decide ((if a > 0 then a else 0) > if b < 0 then b else 0)) (K (Value.bool (23 == 0)))
 (1 =
 [(sgI (IntKind.i64.wrap (0 + if IntKind.i64.wrap (wrI (c - 0) - 21600000) > 0 then IntKind.i64.wrap (wrI (c - 0) - 21600000) else 0)),
 IntKind.i64.wrap
 (IntKind.i64.wrap (sgI (IntKind.i64.wrap (0 + if IntKind.i64.wrap (wrI (c - 0) - 21600000) > 0 then IntKind.i64.wrap (wrI (c - 0) - 21600000) else 0)) + if IntKind.i64.wrap (IntKind.i64.wrap (IntKind.i64.wrap (wrI (c - 0) - 21600000) + d) - c) < IntKind.i64.wrap (0 - 0) then IntKind.i64.wrap (IntKind.i64.wrap (IntKind.i64.wrap (wrI (c - 0) - 21600000) + d) - c) else IntKind.i64.wrap (0 - 0)) -
 if IntKind.i64.wrap (wrI (c - 0) - 21600000) > 0 then IntKind.i64.wrap (wrI (c - 0) - 21600000) else 0))].length ∧
 ∀ (z : List (Int × Int)),
 z =
 [(sgI (IntKind.i64.wrap (0 + if IntKind.i64.wrap (wrI (c - 0) - 21600000) > 0 then IntKind.i64.wrap (wrI (c - 0) - 21600000) else 0)),
 IntKind.i64.wrap
 (IntKind.i64.wrap (sgI (IntKind.i64.wrap (0 + if IntKind.i64.wrap (wrI (c - 0) - 21600000) > 0 then IntKind.i64.wrap (wrI (c - 0) - 21600000) else 0)) + if IntKind.i64.wrap (IntKind.i64.wrap (IntKind.i64.wrap (wrI (c - 0) - 21600000) + d) - c) < IntKind.i64.wrap (0 - 0) then IntKind.i64.wrap (IntKind.i64.wrap (IntKind.i64.wrap (wrI (c - 0) - 21600000) + d) - c) else IntKind.i64.wrap (0 - 0)) -
 if IntKind.i64.wrap (wrI (c - 0) - 21600000) > 0 then IntKind.i64.wrap (wrI (c - 0) - 21600000) else 0))] →
 z = arX ∧ K (Value.bool (0 == 0))))
 (bcase (decide ((if a > 0 then a else 0) > if b < 0 then b else 0)) (K (Value.bool (23 == 0))) (K (Value.bool (23 == 0)))))))) := by kernel_rfl
theorem vc_plinside (a b c d : Int) (K : Value → Prop) : callsX Tryz.prog (ΓMt) (AAd) 113 [plc a b c d, plc 0 0 0 0] K = (
 True ∧ bcase (decide (LatV a b ∧ LonP c d)) (True ∧ bcase (decide (a ≥ 0)) (bcase (decide (b ≤ 0)) (True ∧ True ∧ bcase (allB c d) (K (Value.bool false)) (BvOk 0 c ∧ K (Value.bool (decide (IntKind.i64.wrap (IntKind.i64.wrap (wrI (c - 0) + d) - c) ≤ IntKind.i64.wrap (0 - 0)))))) (K (Value.bool false))) (K (Value.bool false))) (K (Value.bool false))) := by kernel_rfl
theorem vc_children (l r c : Int) : rcallsX Tryz.prog (ΓCh) (AAd) 115 [.one (.v (cel l r c))] [.one (.r 111 cET [(l + 1, 2 * r, 2 * c), (l + 1, 2 * r, 2 * c + 1), (l + 1, 2 * r + 1, 2 * c), (l + 1, 2 * r + 1, 2 * c + 1)]), .one (.v (num 0))] = (
 ClOk l r c ∧
 bcase (l == 16) ([] = [(l + 1, 2 * r, 2 * c), (l + 1, 2 * r, 2 * c + 1), (l + 1, 2 * r + 1, 2 * c), (l + 1, 2 * r + 1, 2 * c + 1)] ∧ Value.int IntKind.i64 6 = Value.int IntKind.i64 0 ∧ True)
 (1 = [(IntKind.i64.wrap (l + 1), IntKind.i64.wrap (IntKind.i64.wrap (2 * r) + IntKind.i64.wrap (Int.tdiv 0 2)), IntKind.i64.wrap (IntKind.i64.wrap (2 * c) + Int.tmod 0 2))].length ∧
 [(IntKind.i64.wrap (l + 1), IntKind.i64.wrap (IntKind.i64.wrap (2 * r) + IntKind.i64.wrap (Int.tdiv 0 2)), IntKind.i64.wrap (IntKind.i64.wrap (2 * c) + Int.tmod 0 2))].length + 1 =
 [(IntKind.i64.wrap (l + 1), IntKind.i64.wrap (IntKind.i64.wrap (2 * r) + IntKind.i64.wrap (Int.tdiv 0 2)), IntKind.i64.wrap (IntKind.i64.wrap (2 * c) + Int.tmod 0 2)), (IntKind.i64.wrap (l + 1), IntKind.i64.wrap (IntKind.i64.wrap (2 * r) + IntKind.i64.wrap ((IntKind.i64.wrap (0 + 1)).tdiv 2)), IntKind.i64.wrap (IntKind.i64.wrap (2 * c) + (IntKind.i64.wrap (0 + 1)).tmod 2))].length ∧
 [(IntKind.i64.wrap (l + 1), IntKind.i64.wrap (IntKind.i64.wrap (2 * r) + IntKind.i64.wrap (Int.tdiv 0 2)), IntKind.i64.wrap (IntKind.i64.wrap (2 * c) + Int.tmod 0 2)), (IntKind.i64.wrap (l + 1), IntKind.i64.wrap (IntKind.i64.wrap (2 * r) + IntKind.i64.wrap ((IntKind.i64.wrap (0 + 1)).tdiv 2)), IntKind.i64.wrap (IntKind.i64.wrap (2 * c) + (IntKind.i64.wrap (0 + 1)).tmod 2))].length + 1 =
 [(IntKind.i64.wrap (l + 1), IntKind.i64.wrap (IntKind.i64.wrap (2 * r) + IntKind.i64.wrap (Int.tdiv 0 2)), IntKind.i64.wrap (IntKind.i64.wrap (2 * c) + Int.tmod 0 2)), (IntKind.i64.wrap (l + 1), IntKind.i64.wrap (IntKind.i64.wrap (2 * r) + IntKind.i64.wrap ((IntKind.i64.wrap (0 + 1)).tdiv 2)), IntKind.i64.wrap (IntKind.i64.wrap (2 * c) + (IntKind.i64.wrap (0 + 1)).tmod 2)),
 (IntKind.i64.wrap (l + 1), IntKind.i64.wrap (IntKind.i64.wrap (2 * r) + IntKind.i64.wrap ((IntKind.i64.wrap (IntKind.i64.wrap (0 + 1) + 1)).tdiv 2)), IntKind.i64.wrap (IntKind.i64.wrap (2 * c) + (IntKind.i64.wrap (IntKind.i64.wrap (0 + 1) + 1)).tmod 2))].length ∧
 [(IntKind.i64.wrap (l + 1), IntKind.i64.wrap (IntKind.i64.wrap (2 * r) + IntKind.i64.wrap (Int.tdiv 0 2)), IntKind.i64.wrap (IntKind.i64.wrap (2 * c) + Int.tmod 0 2)), (IntKind.i64.wrap (l + 1), IntKind.i64.wrap (IntKind.i64.wrap (2 * r) + IntKind.i64.wrap ((IntKind.i64.wrap (0 + 1)).tdiv 2)), IntKind.i64.wrap (IntKind.i64.wrap (2 * c) + (IntKind.i64.wrap (0 + 1)).tmod 2)),
 (IntKind.i64.wrap (l + 1), IntKind.i64.wrap (IntKind.i64.wrap (2 * r) + IntKind.i64.wrap ((IntKind.i64.wrap (IntKind.i64.wrap (0 + 1) + 1)).tdiv 2)), IntKind.i64.wrap (IntKind.i64.wrap (2 * c) + (IntKind.i64.wrap (IntKind.i64.wrap (0 + 1) + 1)).tmod 2))].length +
 1 =
 [(IntKind.i64.wrap (l + 1), IntKind.i64.wrap (IntKind.i64.wrap (2 * r) + IntKind.i64.wrap (Int.tdiv 0 2)), IntKind.i64.wrap (IntKind.i64.wrap (2 * c) + Int.tmod 0 2)), (IntKind.i64.wrap (l + 1), IntKind.i64.wrap (IntKind.i64.wrap (2 * r) + IntKind.i64.wrap ((IntKind.i64.wrap (0 + 1)).tdiv 2)), IntKind.i64.wrap (IntKind.i64.wrap (2 * c) + (IntKind.i64.wrap (0 + 1)).tmod 2)),
 (IntKind.i64.wrap (l + 1), IntKind.i64.wrap (IntKind.i64.wrap (2 * r) + IntKind.i64.wrap ((IntKind.i64.wrap (IntKind.i64.wrap (0 + 1) + 1)).tdiv 2)), IntKind.i64.wrap (IntKind.i64.wrap (2 * c) + (IntKind.i64.wrap (IntKind.i64.wrap (0 + 1) + 1)).tmod 2)),
 (IntKind.i64.wrap (l + 1), IntKind.i64.wrap (IntKind.i64.wrap (2 * r) + IntKind.i64.wrap ((IntKind.i64.wrap (IntKind.i64.wrap (IntKind.i64.wrap (0 + 1) + 1) + 1)).tdiv 2)), IntKind.i64.wrap (IntKind.i64.wrap (2 * c) + (IntKind.i64.wrap (IntKind.i64.wrap (IntKind.i64.wrap (0 + 1) + 1) + 1)).tmod 2))].length ∧
 [(IntKind.i64.wrap (l + 1), IntKind.i64.wrap (IntKind.i64.wrap (2 * r) + IntKind.i64.wrap (Int.tdiv 0 2)), IntKind.i64.wrap (IntKind.i64.wrap (2 * c) + Int.tmod 0 2)), (IntKind.i64.wrap (l + 1), IntKind.i64.wrap (IntKind.i64.wrap (2 * r) + IntKind.i64.wrap ((IntKind.i64.wrap (0 + 1)).tdiv 2)), IntKind.i64.wrap (IntKind.i64.wrap (2 * c) + (IntKind.i64.wrap (0 + 1)).tmod 2)),
 (IntKind.i64.wrap (l + 1), IntKind.i64.wrap (IntKind.i64.wrap (2 * r) + IntKind.i64.wrap ((IntKind.i64.wrap (IntKind.i64.wrap (0 + 1) + 1)).tdiv 2)), IntKind.i64.wrap (IntKind.i64.wrap (2 * c) + (IntKind.i64.wrap (IntKind.i64.wrap (0 + 1) + 1)).tmod 2)),
 (IntKind.i64.wrap (l + 1), IntKind.i64.wrap (IntKind.i64.wrap (2 * r) + IntKind.i64.wrap ((IntKind.i64.wrap (IntKind.i64.wrap (IntKind.i64.wrap (0 + 1) + 1) + 1)).tdiv 2)), IntKind.i64.wrap (IntKind.i64.wrap (2 * c) + (IntKind.i64.wrap (IntKind.i64.wrap (IntKind.i64.wrap (0 + 1) + 1) + 1)).tmod 2))] =
 [(l + 1, 2 * r, 2 * c), (l + 1, 2 * r, 2 * c + 1), (l + 1, 2 * r + 1, 2 * c), (l + 1, 2 * r + 1, 2 * c + 1)] ∧
 Value.int IntKind.i64 0 = Value.int IntKind.i64 0 ∧ True)) := by kernel_rfl
end Go.Proofs.YtjdcicjhpegphaaGreat
namespace Go.Proofs.YtjdcicjhpegphaaGreat
open Go Go.Abs Go.RowKit Go.Sine
theorem wr_small {n : Int} (h : -1000000000 ≤ n ∧ n ≤ 1000000000) : IntKind.i64.wrap n = n := wrap_in (by omega)
theorem cl_cases {l r c : Int} (h : ClOk l r c) : (l = 0 ∧ r = 0 ∧ 0 ≤ c ∧ c < 2) ∨ (l = 1 ∧ 0 ≤ r ∧ r < 2 ∧ 0 ≤ c ∧ c < 4) ∨ (l = 2 ∧ 0 ≤ r ∧ r < 4 ∧ 0 ≤ c ∧ c < 8) ∨ (l = 3 ∧ 0 ≤ r ∧ r < 8 ∧ 0 ≤ c ∧ c < 16) := by
  obtain ⟨⟨h1, h2⟩, ⟨h3, h4⟩, h5, h6⟩ := h
  have : l = 0 ∨ l = 1 ∨ l = 2 ∨ l = 3 := by omega
  rcases this with e | e | e | e
  · subst e
    have p : (2 : Int) ^ (0 : Int).toNat = 1 := rfl
    rw [p] at h4 h6
    omega
  · subst e
    have p : (2 : Int) ^ (1 : Int).toNat = 2 := rfl
    rw [p] at h4 h6
    omega
  · subst e
    have p : (2 : Int) ^ (2 : Int).toNat = 4 := rfl
    rw [p] at h4 h6
    omega
  · subst e
    have p : (2 : Int) ^ (3 : Int).toNat = 8 := rfl
    rw [p] at h4 h6
    omega
theorem ed_range {i l : Int} (h : EdOk i l) : 0 ≤ edI i l ∧ edI i l ≤ 691200000 := by
  obtain ⟨⟨h1, h2⟩, h3, h4⟩ := h
  have p : (0 : Int) < 2 ^ l.toNat := Int.pow_pos (by decide)
  unfold edI
  refine ⟨Int.ediv_nonneg (by omega) (by omega), ?_⟩
  have := Int.ediv_le_self (a := i * 10800000) (2 ^ l.toNat) (by omega)
  omega
theorem cl_edges {l r c : Int} (h : ClOk l r c) : EdOk r l ∧ EdOk (r + 1) l ∧ EdOk c l ∧ EdOk (c + 1) l := by
  have := cl_cases h
  unfold EdOk
  omega
variable {Φ : World → Prop} (hst : ∀ w w', Φ w → Below w.heap.size w w' → Φ w')
include hst
theorem c_clvalid {l r c : Int} (h : ClOk l r c) : Ans Tryz.prog Φ 144 [cel l r c] (.bool true) := by
  refine fn_by hst Sound.nil (vc_clvalid l r c _) ?_
  have k := cl_cases h
  have go : ∀ n : Int, IntKind.i64.wrap (1 * 2 ^ min l.toNat 64) = n → IntKind.i64.wrap (2 * 2 ^ min l.toNat 64) = 2 * n → r < n → c < 2 * n → 0 ≤ r → 0 ≤ c → 0 ≤ l → l ≤ 16 → bcase (decide (l ≥ 0)) (bcase (decide (l ≤ 16)) (bcase (decide (r ≥ 0)) (bcase (decide (l < 0)) False (bcase (decide (r < IntKind.i64.wrap (1 * 2 ^ min l.toNat 64))) (bcase (decide (c ≥ 0)) (bcase (decide (l < 0)) False (Value.bool (decide (c < IntKind.i64.wrap (2 * 2 ^ min l.toNat 64))) = Value.bool true)) (Value.bool false = Value.bool true)) (Value.bool false = Value.bool true))) (Value.bool false = Value.bool true)) (Value.bool false = Value.bool true)) (Value.bool false = Value.bool true) := by
    intro n e1 e2 h1 h2 h3 h4 h5 h6
    rw [e1, e2, decide_eq_true (p := l ≥ 0) (by omega), decide_eq_true (p := l ≤ 16) (by omega), decide_eq_true (p := r ≥ 0) (by omega), decide_eq_false (p := l < 0) (by omega), decide_eq_true (p := r < n) h1, decide_eq_true (p := c ≥ 0) (by omega), decide_eq_true (p := c < 2 * n) h2]
    exact rfl
  rcases k with k | k | k | k
  · obtain ⟨e, k⟩ := k
    subst e
    exact go 1 rfl rfl (by omega) (by omega) (by omega) (by omega) (by omega) (by omega)
  · obtain ⟨e, k⟩ := k
    subst e
    exact go 2 rfl rfl (by omega) (by omega) (by omega) (by omega) (by omega) (by omega)
  · obtain ⟨e, k⟩ := k
    subst e
    exact go 4 rfl rfl (by omega) (by omega) (by omega) (by omega) (by omega) (by omega)
  · obtain ⟨e, k⟩ := k
    subst e
    exact go 8 rfl rfl (by omega) (by omega) (by omega) (by omega) (by omega) (by omega)
theorem c_cledge {i l : Int} (h : EdOk i l) : Ans Tryz.prog Φ 170 [num i, num l] (num (edI i l)) := by
  refine fn_by hst Sound.nil (vc_cledge i l _) ?_
  obtain ⟨⟨h1, h2⟩, h3, h4⟩ := h
  rw [decide_eq_false (p := l < 0) (by omega), wr_small (n := i * 10800000) (by omega), show min l.toNat 64 = l.toNat by omega, Int.fdiv_eq_ediv_of_nonneg _ (Int.le_of_lt (Int.pow_pos (by decide)))]
  exact rfl
theorem s_Bx : Sound Tryz.prog Φ ΓBx :=
  Sound.cons (by kernel_rfl) (fun args p v h hp => by unfold sEdge at h; split at h <;> cases h; exact c_cledge hst hp)
  (Sound.cons (by kernel_rfl) (fun args p v h hp => by unfold sClV at h; split at h <;> cases h; exact c_clvalid hst hp) Sound.nil)
theorem c_rgbox {l r c : Int} (h : ClOk l r c) : Ans Tryz.prog Φ 111 [cel l r c] (plc (bx1 l r) (bx1 l (r + 1)) (bx2 l c) (bx2 l (c + 1))) := by
  refine fn_by hst (s_Bx hst) (vc_rgbox l r c _) ?_
  have k := cl_cases h
  obtain ⟨e1, e2, e3, e4⟩ := cl_edges h
  have r1 := ed_range e1
  have r2 := ed_range e2
  have r3 := ed_range e3
  have r4 := ed_range e4
  rw [wr_small (n := r + 1) (by omega), wr_small (n := c + 1) (by omega), wr_small (n := edI r l - 5400000) (by omega), wr_small (n := edI (r + 1) l - 5400000) (by omega), wr_small (n := edI c l - 10800000) (by omega), wr_small (n := edI (c + 1) l - 10800000) (by omega)]
  exact ⟨h, e1, e2, e3, e4, rfl⟩
theorem s_Mt : Sound Tryz.prog Φ ΓMt :=
  Sound.cons (by kernel_rfl) (fun args p v h hp => by unfold sPlV at h; split at h <;> cases h; exact c_plvalid hst _ _ _ _)
  (Sound.cons (by kernel_rfl) (fun args p v h hp => by unfold sAllB at h; split at h <;> cases h; exact c_plall hst _ _)
  (Sound.cons (by kernel_rfl) (fun args p v h hp => by unfold sEvery at h; split at h <;> cases h; exact c_plevery hst)
  (Sound.cons (by kernel_rfl) (fun args p v h hp => by unfold sBvd at h; split at h <;> cases h; exact c_plbeyond hst _ hp)
  (Sound.rcons (by kernel_rfl) (fun ads p rds h hp => by unfold rAr2 at h; split at h <;> cases h; exact r_around0 hst _ hp)
  (Sound.cons (by kernel_rfl) (fun args p v h hp => by unfold sSgn at h; split at h <;> cases h; exact c_ansigned hst _) Sound.nil)))))
omit hst in
theorem bo_facts {a b c d : Int} (h : BoOk 0 0 0 0 a b c d) : (LatV a b ∧ LonP c d) ∧ allB c d = false := by
  obtain ⟨_, ⟨h1, h2, h3⟩, h4, h5, h6, h7⟩ := h
  refine ⟨⟨by unfold LatV; omega, .inr ⟨by omega, by omega, by omega, by rw [wr_small (by omega)]; omega⟩⟩, ?_⟩
  cases e : allB c d with
  | false => rfl
  | true => have := (all_iff c d).mp e; omega
theorem c_plinside {a b c d : Int} (h : BoOk 0 0 0 0 a b c d) : Ans Tryz.prog Φ 113 [plc a b c d, plc 0 0 0 0] (.bool false) := by
  refine fn_by hst (s_Mt hst) (vc_plinside a b c d _) ?_
  obtain ⟨f1, f2⟩ := bo_facts h
  obtain ⟨_, ⟨h1, h2, h3⟩, h4⟩ := h
  refine ⟨trivial, bcase_iff.mpr ⟨fun _ => ⟨trivial, bcase_iff.mpr ⟨fun p => bcase_iff.mpr ⟨fun q => ?_, fun q => rfl⟩, fun p => rfl⟩⟩, fun _ => rfl⟩⟩
  have p := of_decide_eq_true p
  have q := of_decide_eq_true q
  omega
theorem c_rgmeets {a b c d : Int} (h : BoOk 0 0 0 0 a b c d) : Ans Tryz.prog Φ 112 [plc 0 0 0 0, plc a b c d] (.bool (mtB a b c d)) := by
  refine fn_by hst (s_Mt hst) (vc_rgmeets a b c d _) ?_
  obtain ⟨f1, f2⟩ := bo_facts h
  obtain ⟨_, ⟨h1, h2, h3⟩, h4, h5, h6, h7⟩ := h
  have bv : BvOk 0 c := by unfold BvOk I64; omega
  have no : ¬ ((a ≤ 0 ∧ 0 ≤ b) ∧ (c ≤ 0 ∧ 0 ≤ d)) → (Value.bool (23 == 0) : Value) = .bool (mtB a b c d) := fun n => by unfold mtB; rw [decide_eq_false n]; rfl
  have yes : ((a ≤ 0 ∧ 0 ≤ b) ∧ (c ≤ 0 ∧ 0 ≤ d)) → (Value.bool (0 == 0) : Value) = .bool (mtB a b c d) := fun n => by unfold mtB; rw [decide_eq_true n]; rfl
  have hw : wrI (c - 0) = if 0 ≤ c then c else c + 21600000 := by unfold wrI; split <;> omega
  rw [decide_eq_true f1, f2]
  by_cases s : 0 ≤ c
  · rw [if_pos s] at hw
    rw [hw]
    have w1 : IntKind.i64.wrap (c + d) = c + d := wr_small (by omega)
    have w2 : IntKind.i64.wrap (c + d - c) = d := by rw [wr_small (by omega)]; omega
    have w3 : IntKind.i64.wrap (0 - 0) = 0 := rfl
    have w4 : IntKind.i64.wrap (c - 21600000) = c - 21600000 := wr_small (by omega)
    have w5 : IntKind.i64.wrap (c - 21600000 + d) = c - 21600000 + d := wr_small (by omega)
    have w6 : IntKind.i64.wrap (c - 21600000 + d - c) = d - 21600000 := by rw [wr_small (by omega)]; omega
    rw [w1, w2, w3, w4, w5, w6]
    rw [if_neg (show ¬ d < 0 by omega), if_neg (show ¬ c - 21600000 > 0 by omega), if_pos (show d - 21600000 < 0 by omega), decide_eq_false (show ¬ (0 : Int) ≤ d - 21600000 by omega)]
    simp only [bcase_false]
    refine ⟨trivial, trivial, trivial, trivial, bv, bv, bcase_iff.mpr ⟨fun p => ⟨trivial, bcase_iff.mpr ⟨fun q => ?_, fun q => ⟨rfl, fun z hz => ?_⟩⟩⟩, fun p => bcase_iff.mpr ⟨fun q => ?_, fun q => ?_⟩⟩⟩
    · have q := of_decide_eq_true q
      refine no (fun n => ?_)
      split at q <;> split at q <;> omega
    · have p := of_decide_eq_true p
      have c0 : c = 0 := by split at p <;> omega
      have q := of_decide_eq_false q
      subst c0
      refine ⟨?_, yes ?_⟩
      · rw [hz]
        rfl
      · split at q <;> split at q <;> omega
    · have p := of_decide_eq_false p
      refine no (fun n => ?_)
      split at p <;> omega
    · have p := of_decide_eq_false p
      refine no (fun n => ?_)
      split at p <;> omega
  · rw [if_neg s] at hw
    rw [hw]
    have w1 : IntKind.i64.wrap (c + 21600000 + d) = c + 21600000 + d := wr_small (by omega)
    have w2 : IntKind.i64.wrap (c + 21600000 + d - c) = d + 21600000 := by rw [wr_small (by omega)]; omega
    have w3 : IntKind.i64.wrap (0 - 0) = 0 := rfl
    have w4 : IntKind.i64.wrap (c + 21600000 - 21600000) = c := by rw [wr_small (by omega)]; omega
    have w5 : IntKind.i64.wrap (c + d) = c + d := wr_small (by omega)
    have w6 : IntKind.i64.wrap (c + d - c) = d := by rw [wr_small (by omega)]; omega
    rw [w1, w2, w3, w4, w5, w6]
    rw [if_pos (show c + 21600000 > 0 by omega), if_neg (show ¬ d + 21600000 < 0 by omega), if_neg (show ¬ c > 0 by omega), decide_eq_false (show ¬ c + 21600000 ≤ 0 by omega)]
    simp only [bcase_false]
    refine ⟨trivial, trivial, trivial, trivial, bv, bv, bcase_iff.mpr ⟨fun p => ⟨trivial, bcase_iff.mpr ⟨fun q => ?_, fun q => ⟨rfl, fun z hz => ?_⟩⟩⟩, fun p => bcase_iff.mpr ⟨fun q => ?_, fun q => ?_⟩⟩⟩
    · have q := of_decide_eq_true q
      refine no (fun n => ?_)
      split at q <;> split at q <;> omega
    · have p := of_decide_eq_true p
      have q := of_decide_eq_false q
      have d0 : ¬ d < 0 := by split at p <;> omega
      refine ⟨?_, yes ?_⟩
      · rw [hz, if_neg d0]
        rfl
      · split at q <;> split at q <;> omega
    · have p := of_decide_eq_false p
      refine no (fun n => ?_)
      split at p <;> omega
    · have p := of_decide_eq_false p
      refine no (fun n => ?_)
      split at p <;> omega
theorem r_children {l r c : Int} (h : ClOk l r c) : RAns Tryz.prog Φ 115 [.one (.v (cel l r c))] [.one (.r 111 cET (chL l r c)), .one (.v (num 0))] := by
  refine rfn_by hst (Sound.cons (by kernel_rfl) (fun args p v h hp => by unfold sClV at h; split at h <;> cases h; exact c_clvalid hst hp) Sound.nil) (vc_children l r c) ?_
  have k := cl_cases h
  refine ⟨h, bcase_iff.mpr ⟨fun q => ?_, fun _ => ⟨rfl, rfl, rfl, rfl, ?_, rfl, trivial⟩⟩⟩
  · have q : l = 16 := by simpa using q
    omega
  · have w0 : IntKind.i64.wrap (0 + 1) = 1 := rfl
    have w1 : IntKind.i64.wrap (1 + 1) = 2 := rfl
    have w2 : IntKind.i64.wrap (2 + 1) = 3 := rfl
    have t0 : Int.tdiv 0 2 = 0 := rfl
    have t1 : Int.tdiv 1 2 = 0 := rfl
    have t2 : Int.tdiv 2 2 = 1 := rfl
    have t3 : Int.tdiv 3 2 = 1 := rfl
    have m0 : Int.tmod 0 2 = 0 := rfl
    have m1 : Int.tmod 1 2 = 1 := rfl
    have m2 : Int.tmod 2 2 = 0 := rfl
    have m3 : Int.tmod 3 2 = 1 := rfl
    have v0 : IntKind.i64.wrap 0 = 0 := rfl
    have v1 : IntKind.i64.wrap 1 = 1 := rfl
    rw [w0, w1, w2, t0, t1, t2, t3, m0, m1, m2, m3, v0, v1, wr_small (n := l + 1) (by omega), wr_small (n := 2 * r) (by omega), wr_small (n := 2 * c) (by omega), wr_small (n := 2 * r + 0) (by omega), wr_small (n := 2 * c + 0) (by omega), wr_small (n := 2 * r + 1) (by omega), wr_small (n := 2 * c + 1) (by omega), Int.add_zero, Int.add_zero]
end Go.Proofs.YtjdcicjhpegphaaGreat
namespace Go.Proofs.YtjdcicjhpegphaaGreat
open Go Go.Abs Go.RowKit Go.Sine
theorem vc_wayat (n : Int) (K : Value → Prop) : callsX Tryz.prog ([]) (noAnn) 10 [num n] K = (
 K (Value.agg #[Value.int IntKind.i64 n, Value.int IntKind.i64 n])) := by kernel_rfl
end Go.Proofs.YtjdcicjhpegphaaGreat
namespace Go.Proofs.YtjdcicjhpegphaaGreat
open Go Go.Abs Go.RowKit Go.Sine
variable {Φ : World → Prop} (hst : ∀ w w', Φ w → Below w.heap.size w w' → Φ w')
include hst
theorem c_wayat (n : Int) : Ans Tryz.prog Φ 10 [num n] (wid n n) := fn_by hst Sound.nil (vc_wayat n _) rfl
end Go.Proofs.YtjdcicjhpegphaaGreat
namespace Go.Proofs.YtjdcicjhpegphaaGreat
open Go Go.Abs Go.RowKit Go.Sine
variable {Φ : World → Prop} (hst : ∀ w w', Φ w → Below w.heap.size w w' → Φ w')
include hst
theorem s_Ru3 : Sound Tryz.prog Φ ΓRu3 :=
  Sound.cons (by kernel_rfl) (fun args p v h hp => by unfold sSin6 at h; split at h <;> cases h; exact c_sin6 hst hp)
  (Sound.cons (by kernel_rfl) (fun args p v h hp => by
    unfold sCos6 at h
    split at h
    · rename_i a b
      cases e : decide (b = 0) with
      | true =>
        rw [e] at h
        cases h
        have b0 := of_decide_eq_true e
        have := c_cos6 hst (.inl ⟨b0, hp⟩)
        rw [if_pos b0] at this
        exact this
      | false =>
        rw [e] at h
        cases h
        have b0 := of_decide_eq_false e
        have := c_cos6 hst (.inr ⟨b0, hp⟩)
        rw [if_neg b0] at this
        exact this
    · cases h)
  (Sound.cons (by kernel_rfl) (fun args p v h hp => by unfold sFxValid at h; split at h <;> cases h; exact c_fxvalid hst _ _)
  (Sound.cons (by kernel_rfl) (fun args p v h hp => by unfold sFxBoth at h; split at h <;> cases h; exact c_fxboth hst _ _ _ _)
  (Sound.cons (by kernel_rfl) (fun args p v h hp => by unfold sFxFactor at h; split at h <;> cases h; exact c_fxfactor hst _)
  (Sound.cons (by kernel_rfl) (fun args p v h hp => by
    unfold sEnc6 at h
    split at h
    · rename_i x n d
      cases e : decide (x = 0) with
      | true =>
        rw [e] at h
        cases h
        obtain ⟨h1, h2, h3⟩ := hp
        subst h1 h2 h3
        exact c_enc0 hst
      | false =>
        rw [e] at h
        cases h
        obtain ⟨h1, h2, h3⟩ := hp
        subst h1 h2 h3
        exact c_enc6 hst
    · cases h)
  (Sound.cons (by kernel_rfl) (fun args p v h hp => by unfold sQuo6 at h; split at h <;> cases h; exact c_quo6 hst hp)
  (Sound.cons (by kernel_rfl) (fun args p v h hp => by unfold sAnValid at h; split at h <;> cases h; exact c_anvalid hst _ _)
  (Sound.cons (by kernel_rfl) (fun args p v h hp => by unfold sSgn at h; split at h <;> cases h; exact c_ansigned hst _)
  (Sound.cons (by kernel_rfl) (fun args p v h hp => by unfold sPlV at h; split at h <;> cases h; exact c_plvalid hst _ _ _ _) Sound.nil)))))))))
theorem s_Ar3 : Sound Tryz.prog Φ ΓAr3 :=
  Sound.cons (by kernel_rfl) (fun args p v h hp => by unfold sPlV at h; split at h <;> cases h; exact c_plvalid hst _ _ _ _)
  (Sound.cons (by kernel_rfl) (fun args p v h hp => by unfold sBox at h; split at h <;> (try simp only [forceI_eq] at h) <;> cases h; exact c_rgbox hst hp)
  (Sound.cons (by kernel_rfl) (fun args p v h hp => by unfold sMeet at h; split at h <;> (try simp only [forceI_eq] at h) <;> cases h; obtain ⟨⟨z1, z2, z3, z4⟩, hr⟩ := hp; subst z1 z2 z3 z4; exact c_rgmeets hst ⟨⟨rfl, rfl, rfl, rfl⟩, hr⟩)
  (Sound.cons (by kernel_rfl) (fun args p v h hp => by unfold sInsd at h; split at h <;> cases h; obtain ⟨⟨z1, z2, z3, z4⟩, hr⟩ := hp; subst z1 z2 z3 z4; exact c_plinside hst ⟨⟨rfl, rfl, rfl, rfl⟩, hr⟩)
  (Sound.rcons (by kernel_rfl) (fun ads p rds h hp => by unfold rChi at h; split at h <;> (try simp only [forceI_eq] at h) <;> cases h; exact r_children hst hp)
  (Sound.cons (by kernel_rfl) (fun args p v h hp => by unfold sClV at h; split at h <;> cases h; exact c_clvalid hst hp) Sound.nil)))))
theorem c_plane6 : Ans Tryz.prog Φ 100 [arc4 0 0 60000 60000] (.tuple ⟨[.agg ⟨[num 60000, num 60000]⟩, .agg ⟨[num 0, num 0]⟩, num 0]⟩) := by
  refine fn_byN hst (s_Ru3 hst) (vc_plane6 _) ?_
  repeat' apply And.intro
  all_goals first | exact True.intro | decide +kernel | kernel_rfl
theorem c_dlon6 : Ans Tryz.prog Φ 61 [wid 0 60000, wid 0 0] (fxOk 0 0) := by
  refine fn_byN hst (s_Ru3 hst) (vc_dlon6 _) ?_
  repeat' apply And.intro
  all_goals first | exact True.intro | decide +kernel | kernel_rfl
theorem s_Ru4 : Sound Tryz.prog Φ ΓRu4 :=
  Sound.cons (by kernel_rfl) (fun args p v h hp => by unfold sPla at h; split at h <;> cases h; unfold Pl4 at hp; cases hp; exact c_plane6 hst)
  (Sound.cons (by kernel_rfl) (fun args p v h hp => by unfold sDlo at h; split at h <;> cases h; unfold Dl4 at hp; cases hp; exact c_dlon6 hst)
  (Sound.cons (by kernel_rfl) (fun args p v h hp => by unfold sAnValid at h; split at h <;> cases h; exact c_anvalid hst _ _)
  (Sound.cons (by kernel_rfl) (fun args p v h hp => by unfold sSgn at h; split at h <;> cases h; exact c_ansigned hst _)
  (Sound.cons (by kernel_rfl) (fun args p v h hp => by unfold sPlV at h; split at h <;> cases h; exact c_plvalid hst _ _ _ _) Sound.nil))))
theorem r_run3 : RAns Tryz.prog Φ 23 [.one (.v (plc 0 0 0 0)), .one (.r 53 lET [(0, 0, 60000, 60000)])] [.agg [.v (num 60000), .v (num 60000), .v (num 0), .v (num 0)], .one (.v (num 0))] := by
  refine rfn_byN hst (s_Ru4 hst) (vc_run3 0) ?_
  repeat' apply And.intro
  all_goals first | exact True.intro | kernel_rfl | (unfold Pl4; kernel_rfl) | (unfold Dl4; kernel_rfl)
theorem r_around3 : RAns Tryz.prog Φ 25 [.one (.v (plc 0 0 0 0)), .one (.v (num 3))] [.one (.r 111 cET outL), .one (.v (num 0))] := by
  refine rfn_byN hst (s_Ar3 hst) (vc_around3 0) ?_
  repeat' apply And.intro
  all_goals first | exact True.intro | decide +kernel | exact congrArg (Value.int IntKind.i64) (by decide +kernel)
theorem s_Wy {X Y : Int} (hi : Ans Tryz.prog Φ 15 [wid 0 0, wid 0 3600000] (pair (arc4 X Y 3600000 3600000) (num 0))) : Sound Tryz.prog Φ (ΓWy X Y) :=
  Sound.cons (by kernel_rfl) (fun args p v h hp => by unfold sInv at h; split at h <;> cases h; unfold P6 at hp; cases hp; exact hi)
  (Sound.cons (by kernel_rfl) (fun args p v h hp => by unfold sAl6 at h; split at h <;> cases h; unfold L6 at hp; cases hp; exact c_al6 hst)
  (Sound.cons (by kernel_rfl) (fun args p v h hp => by unfold sOne1 at h; split at h <;> cases h; exact c_wayat hst _)
  (Sound.rcons (by kernel_rfl) (fun ads p rds h hp => by unfold rRun3 at h; split at h <;> cases h; obtain ⟨⟨z1, z2, z3, z4⟩, hr⟩ := hp; subst z1 z2 z3 z4 hr; exact r_run3 hst)
  (Sound.rcons (by kernel_rfl) (fun ads p rds h hp => by unfold rAro3 at h; split at h <;> cases h; obtain ⟨⟨z1, z2, z3, z4⟩, hr⟩ := hp; subst z1 z2 z3 z4 hr; exact r_around3 hst) Sound.nil))))
theorem c_wayawake {X Y : Int} (hi : Ans Tryz.prog Φ 15 [wid 0 0, wid 0 3600000] (pair (arc4 X Y 3600000 3600000) (num 0))) : Ans Tryz.prog Φ 5 [] (.bool true) := by
  refine fn_by hst (s_Wy hst hi) (vc_wayawake X Y _) ?_
  exact ⟨rfl, trivial, ⟨⟨rfl, rfl, rfl, rfl⟩, rfl⟩, trivial, rfl, ⟨⟨rfl, rfl, rfl, rfl⟩, rfl⟩, trivial, trivial, trivial, rfl⟩
end Go.Proofs.YtjdcicjhpegphaaGreat
