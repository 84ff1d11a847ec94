/- A struct of four structs of two ints each, as an argument. -/
import Derived.Test.YtjdcicjhpegphaaGreatAbs
import Derived.ProofKit
import Derived.OpenShut
import Derived.Lib.SmallJoins
import Derived.ChangeOld
set_option linter.unusedVariables false
namespace Go.Abs
open Go Go.ChangeShapes Go.WideShapes Go.ChangeAt Go.RowKit Go.Joins
theorem array8 {cs : Array Value} (h : cs.size = 8) : ∃ x0 x1 x2 x3 x4 x5 x6 x7 : Value, cs = #[x0, x1, x2, x3, x4, x5, x6, x7] := by
  obtain ⟨l⟩ := cs
  match l, h with
  | [x0, x1, x2, x3, x4, x5, x6, x7], _ => exact ⟨x0, x1, x2, x3, x4, x5, x6, x7, rfl⟩
theorem open_geo {H : Type} {enc : TypeId × Value → H} {P : Program} {w : World} {base b0 : Nat} {spare : Nat → Bool} {held : Bool} {r : Reach} {t u i : TypeId} {f0 f1 f2 f3 g0 g1 : Field} {v : Value} {d : DataW H} {p : List MemPlace}
    (hs : P.underlying t = some (.struct #[f0, f1, f2, f3])) (hu : P.underlying u = some (.struct #[g0, g1])) (hi : P.underlying i = some (.int .i64))
    (ht : (f0.type, f1.type, f2.type, f3.type, f0.offset, f1.offset, f2.offset, f3.offset) = (u, u, u, u, 0, 2, 4, 6)) (hg : (g0.type, g1.type, g0.offset, g1.offset) = (i, i, 0, 1)) (hc : (P.cellsOf t, P.cellsOf u, P.cellsOf i) = (8, 2, 1))
    (hv : Value.okWide P w r b0 t v) (h : DataW.Trod enc P w base spare held t v d p) :
    ∃ a b c e f g j k : Int, v = .agg #[.int .i64 a, .int .i64 b, .int .i64 c, .int .i64 e, .int .i64 f, .int .i64 g, .int .i64 j, .int .i64 k] := by
  simp only [Prod.mk.injEq] at ht hg hc
  obtain ⟨t0, t1, t2, t3, o0, o1, o2, o3⟩ := ht
  obtain ⟨i0, i1, p0, p1⟩ := hg
  obtain ⟨c8, c2, c1⟩ := hc
  obtain ⟨cs, rfl, hsz⟩ := okWide_struct hs hv
  obtain ⟨x0, x1, x2, x3, x4, x5, x6, x7, rfl⟩ := array8 (hsz.trans c8)
  obtain ⟨fuel, hf⟩ := h
  obtain ⟨y0, y1, y2, y3, n, hx, _, h0, h1, h2, h3⟩ := trod_struct4 hs hf
  rw [t0, o0, c2] at h0
  rw [t1, o1, c2] at h1
  rw [t2, o2, c2] at h2
  rw [t3, o3, c2] at h3
  obtain ⟨_, _, _, _, _, k0, k1⟩ := trod_struct2 hu h0
  obtain ⟨_, _, _, _, _, k2, k3⟩ := trod_struct2 hu h1
  obtain ⟨_, _, _, _, _, k4, k5⟩ := trod_struct2 hu h2
  obtain ⟨_, _, _, _, _, k6, k7⟩ := trod_struct2 hu h3
  rw [i0, p0, c1] at k0 k2 k4 k6
  rw [i1, p1, c1] at k1 k3 k5 k7
  obtain ⟨a, ea, _, _⟩ := DataW.trod_int hi k0
  obtain ⟨b, eb, _, _⟩ := DataW.trod_int hi k1
  obtain ⟨c, ec, _, _⟩ := DataW.trod_int hi k2
  obtain ⟨e, ee, _, _⟩ := DataW.trod_int hi k3
  obtain ⟨f, ef, _, _⟩ := DataW.trod_int hi k4
  obtain ⟨g, eg, _, _⟩ := DataW.trod_int hi k5
  obtain ⟨j, ej, _, _⟩ := DataW.trod_int hi k6
  obtain ⟨k, ek, _, _⟩ := DataW.trod_int hi k7
  simp [Value.cells] at ea eb ec ee ef eg ej ek
  subst ea eb ec ee ef eg ej ek
  exact ⟨a, b, c, e, f, g, j, k, rfl⟩
end Go.Abs
