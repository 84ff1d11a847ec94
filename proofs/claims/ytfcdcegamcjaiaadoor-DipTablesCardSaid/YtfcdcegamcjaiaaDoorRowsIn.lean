/- Slices of ints that come in as arguments: what they hold. No program is in sight here. -/
import Derived.Test.YtfcdcegamcjaiaaDoorAbs
import Derived.ProofKit
import Derived.OpenShut
import Derived.Deep.Slices
import Derived.Lib.SmallJoins
import Derived.ChangeOld
set_option linter.unusedVariables false
set_option linter.unusedSimpArgs false
namespace Go.Abs
open Go Go.ChangeShapes Go.WideShapes Go.ChangeAt Go.RowKit Go.Deep Go.Joins
theorem list_choose {α : Type} (d : α) {Q : Nat → α → Prop} : ∀ n : Nat, (∀ i, i < n → ∃ x, Q i x) → ∃ l : List α, l.length = n ∧ ∀ i, i < n → Q i (l.getD i d) := by
  intro n
  induction n with
  | zero => exact fun _ => ⟨[], rfl, fun i hi => by omega⟩
  | succ n ih =>
    intro h
    obtain ⟨l, hl, hq⟩ := ih (fun i hi => h i (by omega))
    obtain ⟨x, hx⟩ := h n (by omega)
    refine ⟨l ++ [x], by simp [hl], fun i hi => ?_⟩
    by_cases hin : i < n
    · have e : (l ++ [x]).getD i d = l.getD i d := by simp [List.getD_eq_getElem?_getD, List.getElem?_append, hl, hin]
      rw [e]
      exact hq i hin
    · obtain rfl : i = n := by omega
      have e : (l ++ [x]).getD l.length d = x := by simp [List.getD_eq_getElem?_getD]
      rw [← hl, e, hl]
      exact hx
theorem flat_ints (k : IntKind) : ∀ (ys : List Int), ys.flatMap (ET.int k).enc.enc = ys.map (Value.int k)
  | [] => rfl
  | y :: l => by rw [List.flatMap_cons, List.map_cons, flat_ints k l]; rfl
theorem ints_open {P : Program} {H : Type} {enc : TypeId × Value → H} {W : World} {r : Reach} {b0 base : Nat} {spare : Nat → Bool} {held : Bool} {t e : TypeId} {k : IntKind} {v : Value} {d : DataW H} {p : List MemPlace}
    (ht : P.underlying t = some (.slice e)) (he : P.underlying e = some (.int k)) (hc : P.cellsOf e = 1) (hv : Value.okWide P W r b0 t v) (h : DataW.Trod enc P W base spare held t v d p) :
    ∃ xs : List Int, Holds W v e (.int k) xs ∧ (∀ x ∈ xs, (Lit.int k x).wf = true) := by
  obtain ⟨A, len, cap, rfl⟩ := okWide_slice ht hv
  obtain ⟨fuel, hf⟩ := h
  rcases open_slice ht hf with ⟨e1, _⟩ | ⟨a, len', cap', m, n, D, Pl, e1, hb, hl, _, hm, _, hi⟩
  · simp [Value.cells] at e1
    obtain ⟨rfl, rfl, rfl⟩ := e1
    exact ⟨[], ⟨fun _ => ⟨_, _, rfl⟩, fun q => absurd rfl q⟩, fun x hx => by cases hx⟩
  · simp [Value.cells] at e1
    obtain ⟨rfl, rfl, rfl⟩ := e1
    have hlm : len ≤ m := by rw [hm]; split <;> omega
    obtain ⟨xs, hx, hq⟩ := list_choose (0 : Int) (Q := fun i x => W.cell? (a.add i) = some (.int k x) ∧ (Lit.int k x).wf = true) len (fun i hi' => by
      obtain ⟨cs', hcs, hT⟩ := hi i (by omega)
      rw [hc, Nat.mul_one] at hcs
      obtain ⟨_, hcl, hat⟩ := World.cells?_some hcs
      obtain ⟨x, rfl, _, hw⟩ := DataW.trod_int he hT
      have := hat 0 (by omega)
      have e0 : ∀ y : Addr, y.add 0 = y := fun y => by unfold Addr.add; simp
      rw [e0] at this
      exact ⟨x, by simpa using this, hw⟩)
    subst hx
    refine ⟨xs, ⟨fun q => ⟨_, _, by rw [q]⟩, fun q => ?_⟩, fun x hx => ?_⟩
    · have h0 := (hq 0 (by omega)).1
      have hs : a.spot = none := by
        have := World.cell?_spot h0
        simpa [Addr.add] using this
      obtain ⟨b, off, s⟩ := a
      have hs : s = none := hs
      subst hs
      have hadd : ∀ i, (⟨b, off, none⟩ : Addr).add i = ⟨b, off + i, none⟩ := fun i => addr_add b off i
      rw [hadd] at h0
      obtain ⟨cs, T', fz, hcell⟩ : ∃ cs T' fz, W.heap[b]? = some (.cells cs T' fz) := by
        unfold World.cell? at h0
        split at h0
        · rename_i c T fz hh
          exact ⟨c, T, fz, hh⟩
        · cases h0
      have cell : ∀ i, W.cell? ⟨b, off + i, none⟩ = cs[off + i]? := fun i => by
        unfold World.cell?
        rw [hcell]
        rfl
      refine ⟨b, off, cap, cs, T', fz, ?_, hl, hcell, ?_⟩
      · show _ = Value.slice (some ⟨b, off * 1, none⟩) _ _
        rw [Nat.mul_one]
      · show List.take (xs.length * 1) (List.drop (off * 1) cs.toList) = _
        rw [flat_ints, Nat.mul_one, Nat.mul_one]
        apply List.ext_getElem?
        intro j
        by_cases hj : j < xs.length
        · have hh := (hq j hj).1
          rw [hadd, cell j] at hh
          rw [List.getElem?_take, if_pos hj, List.getElem?_drop, Array.getElem?_toList, hh]
          simp [List.getD, hj]
        · rw [List.getElem?_eq_none (by simp; omega), List.getElem?_eq_none (by simp; omega)]
    · obtain ⟨j, hj, rfl⟩ := List.getElem_of_mem hx
      have := (hq j hj).2
      simpa [List.getD, hj] using this
/-- A contract of one slice, at a slice that comes in. -/
theorem calls_row {P : Program} {Φ : World → Prop} {f : FuncId} {T : TypeId} {t : ET} {xs : List t.ty} {v rd : Value} {w : World} (h : RAns P Φ f [.one (.r T t xs)] [.one (.v rd)]) (hw : Φ w) (H : Holds w v T t xs) :
    Calls P f #[v] w fun e w' => e = .returned rd ∧ Below w.heap.size w w' := by
  refine (h w [v] [v] hw ⟨[], rfl, rfl⟩ ⟨H, trivial⟩).mono ?_
  rintro e w' ⟨hb, rvs, rcells, gs, he, hs, hc, _⟩
  refine ⟨?_, hb⟩
  cases rvs with
  | nil => exact hs.elim
  | cons r rvs =>
    obtain ⟨cs, rfl, hs⟩ := hs
    cases rvs with
    | nil =>
      have : r = rd := hc.1
      subst this
      exact he
    | cons _ _ => exact hs.elim
end Go.Abs
