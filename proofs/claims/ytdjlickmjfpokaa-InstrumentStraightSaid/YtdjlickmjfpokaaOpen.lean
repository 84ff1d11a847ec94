/- An instrument that comes in as an argument: its index, and its table as a list of entries in memory. -/
import Derived.Test.YtdjlickmjfpokaaRows
import Derived.Test.YtdjlickmjfpokaaPlain
import Derived.ProofKit
import Derived.OpenShut
import Derived.Deep.Slices
import Derived.Lib.SmallJoins
import Derived.ChangeOld
namespace Go.Proofs.Ytdjlickmjfpokaa
open Go.ChangeShapes Go.WideShapes Go.ChangeAt Go.RowKit Go.Deep Go.Joins
set_option linter.unusedVariables false

theorem list_choose {α : Type} (d : α) {Q : Nat → α → Prop} : ∀ n : Nat, (∀ i, i < n → ∃ x, Q i x) → ∃ l : List α, l.length = n ∧ ∀ i, i < n → Q i (l.getD i d) := by
  intro n
  induction n with
  | zero => exact fun _ => ⟨[], rfl, fun i hi => by omega⟩
  | succ n ih =>
    intro h
    obtain ⟨l, hl, hq⟩ := ih (fun i hi => h i (by omega))
    obtain ⟨x, hx⟩ := h n (by omega)
    refine ⟨l ++ [x], by simp [hl], fun i hi => ?_⟩
    by_cases hin : i < n
    · have e : (l ++ [x]).getD i d = l.getD i d := by simp [List.getD_eq_getElem?_getD, List.getElem?_append, hl, hin]
      rw [e]
      exact hq i hin
    · obtain rfl : i = n := by omega
      have e : (l ++ [x]).getD l.length d = x := by simp [List.getD_eq_getElem?_getD]
      rw [← hl, e, hl]
      exact hx
theorem add_add2 (a : Addr) (i j : Nat) (hs : a.spot = none) : (a.add i).add j = ⟨a.block, a.off + i + j, none⟩ := by
  obtain ⟨b, o, s⟩ := a
  simp at hs
  subst hs
  unfold Addr.add
  by_cases hi : i = 0 <;> by_cases hj : j = 0 <;> simp [hi, hj]
theorem cells1 : Try.prog.cellsOf 3 = 1 := by kernel_rfl
theorem cells2 : Try.prog.cellsOf 42 = 2 := by kernel_rfl
def w2 (W : World) (a : Addr) (i : Nat) (x : Int × Int) : Prop := a.spot = none ∧ a.block < W.heap.size ∧ W.cell? ⟨a.block, a.off + i * 2, none⟩ = some (.int .i64 x.1) ∧ W.cell? ⟨a.block, a.off + i * 2 + 1, none⟩ = some (.int .i64 x.2)
set_option maxRecDepth 100000 in
theorem instr_open {H : Type} {enc : TypeId × Value → H} {W : World} {base : Nat} {v : Value} {d : DataW H} {p : List MemPlace} (hv : Value.okWide Try.prog W .any base 30 v)
    (h : DataW.Trod enc Try.prog W 0 (fun _ => true) true 30 v d p) :
    ∃ idx A c l, (Lit.int .i64 idx).wf = true ∧ v = .agg #[.int .i64 idx, .slice A l.length c] ∧ l.length ≤ c ∧ Tab W A l := by
  obtain ⟨c0, c1, y0, y1, m, rfl, rfl, rfl, hy0, hy1⟩ := open_agg2 Try.underlying30 (by kernel_rfl) (by kernel_rfl) hv h
  obtain ⟨idx, e0, _, wi⟩ := DataW.trod_int Try.underlying3 hy0
  simp at e0
  subst e0
  rcases open_slice Try.underlying28 hy1 with ⟨e1, _⟩ | ⟨a, len, cap, m', n, D, Pl, e1, _, hl, _, hm, _, hi⟩
  · simp at e1
    subst e1
    exact ⟨idx, none, 0, [], wi, rfl, Nat.le_refl _, fun h => by simp at h⟩
  · simp at e1
    subst e1
    have hm' : m' = cap := by rw [hm]; simp
    have hs : 0 < len → a.spot = none := fun hpos => by
      obtain ⟨cs', hc, ht⟩ := hi 0 (by omega)
      rw [cells2] at hc
      obtain ⟨_, hcl, hat⟩ := World.cells?_some hc
      have h0 := hat 0 (by omega)
      rw [List.getElem?_eq_getElem (by omega)] at h0
      have := World.cell?_spot h0
      simpa [Addr.add] using this
    obtain ⟨l, hll, hq⟩ := list_choose (0, 0) (Q := fun i (x : Int × Int) => w2 W a i x) len (fun i hi' => by
      obtain ⟨cs', hc, ht⟩ := hi i (by omega)
      rw [cells2] at hc
      obtain ⟨z0, z1, k, _, hlen, g0, g1⟩ := trod_struct2 Try.underlying42 ht
      rw [cells2] at hlen
      obtain ⟨_, hcl, hat⟩ := World.cells?_some hc
      match cs', hlen with
      | [u0, u1], _ =>
        obtain ⟨x, ex, _, _⟩ := DataW.trod_int Try.underlying3 g0
        obtain ⟨y, ey, _, _⟩ := DataW.trod_int Try.underlying3 g1
        have h0 := hat 0 (by omega)
        have h1 := hat 1 (by omega)
        simp [cells1] at ex ey h0 h1
        subst ex ey
        have hs := hs (by omega)
        rw [add_add2 _ _ _ hs] at h0 h1
        have hb : a.block < W.heap.size := World.block_lt_of_cell? W ⟨a.block, a.off + i * 2 + 0, none⟩ h0
        exact ⟨(x, y), hs, hb, h0, h1⟩)
    refine ⟨idx, some a, cap, l, wi, by rw [hll], by rw [hll]; exact hl, fun hpos => ?_⟩
    obtain ⟨hs, hb, _, _⟩ := hq 0 (by omega)
    refine ⟨a.block, a.off, by cases a; simp at hs; simp [hs], hb, fun k hk => ?_⟩
    exact (hq k (by omega)).2.2
end Go.Proofs.Ytdjlickmjfpokaa
