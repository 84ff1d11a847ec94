/- A struct of two structs of two ints each, as an argument. -/
import Derived.Test.YtbpeakgiajcfeaaDoorAbs
import Derived.ProofKit
import Derived.OpenShut
import Derived.Lib.SmallJoins
import Derived.ChangeOld
set_option linter.unusedVariables false
namespace Go.Abs
open Go Go.ChangeShapes Go.WideShapes Go.ChangeAt Go.RowKit Go.Joins
theorem open_agg22 {H : Type} {enc : TypeId × Value → H} {P : Program} {w : World} {base b0 : Nat} {spare : Nat → Bool} {held : Bool} {r : Reach} {t u i : TypeId} {f0 f1 g0 g1 : Field} {v : Value} {d : DataW H} {p : List MemPlace}
    (hs : P.underlying t = some (.struct #[f0, f1])) (hu : P.underlying u = some (.struct #[g0, g1])) (hi : P.underlying i = some (.int .i64))
    (ht : (f0.type, f1.type, f0.offset, f1.offset) = (u, u, 0, 2)) (hg : (g0.type, g1.type, g0.offset, g1.offset) = (i, i, 0, 1)) (hc : (P.cellsOf t, P.cellsOf u, P.cellsOf i) = (4, 2, 1))
    (hv : Value.okWide P w r b0 t v) (h : DataW.Trod enc P w base spare held t v d p) :
    ∃ a b c e : Int, v = .agg #[.int .i64 a, .int .i64 b, .int .i64 c, .int .i64 e] ∧ (Lit.int .i64 a).wf = true ∧ (Lit.int .i64 b).wf = true ∧ (Lit.int .i64 c).wf = true ∧ (Lit.int .i64 e).wf = true := by
  simp only [Prod.mk.injEq] at ht hg hc
  obtain ⟨t0, t1, o0, o1⟩ := ht
  obtain ⟨i0, i1, p0, p1⟩ := hg
  obtain ⟨c4, c2, c1⟩ := hc
  obtain ⟨cs, rfl, hsz⟩ := okWide_struct hs hv
  obtain ⟨x0, x1, x2, x3, rfl⟩ := array4 (hsz.trans c4)
  obtain ⟨fuel, hf⟩ := h
  obtain ⟨y0, y1, n, hx, _, h0, h1⟩ := trod_struct2 hs hf
  rw [t0, o0, c2] at h0
  rw [t1, o1, c2] at h1
  obtain ⟨z0, z1, n1, _, _, k0, k1⟩ := trod_struct2 hu h0
  obtain ⟨z2, z3, n2, _, _, k2, k3⟩ := trod_struct2 hu h1
  rw [i0, p0, c1] at k0 k2
  rw [i1, p1, c1] at k1 k3
  obtain ⟨a, ea, _, wa⟩ := DataW.trod_int hi k0
  obtain ⟨b, eb, _, wb⟩ := DataW.trod_int hi k1
  obtain ⟨c, ec, _, wc⟩ := DataW.trod_int hi k2
  obtain ⟨e, ee, _, we⟩ := DataW.trod_int hi k3
  simp [Value.cells] at ea eb ec ee
  subst ea eb ec ee
  exact ⟨a, b, c, e, rfl, wa, wb, wc, we⟩
end Go.Abs
