/- An instrument that comes in as an argument: what its table holds. -/
import Derived.Test.YtkcelhhhbbpbpaaDoorInD
import Derived.Test.YtkcelhhhbbpbpaaDoorOpen
namespace Go.Proofs.YtkcelhhhbbpbpaaDoor
open Go Go.Abs Go.RowKit
set_option linter.unusedVariables false
set_option linter.unusedSimpArgs false
theorem tab_holds {w : World} {A : Option Addr} {c : Nat} {l : List (Int × Int)} (h : Tab w A l) (hc : l.length ≤ c) : Holds w (.slice A l.length c) 48 pE2 l := by
  refine ⟨fun q => ⟨A, c, by rw [q]⟩, fun q => ?_⟩
  obtain ⟨b, off, rfl, hE⟩ := h (by omega)
  obtain ⟨hb, he⟩ := hE
  have h0 := (he 0 (by omega)).1
  obtain ⟨cs, T', fz, hcell⟩ : ∃ cs T' fz, w.heap[b]? = some (.cells cs T' fz) := by
    unfold World.cell? at h0
    split at h0
    · rename_i c T fz hh
      exact ⟨c, T, fz, hh⟩
    · cases h0
  have cell : ∀ i, w.cell? ⟨b, off + i, none⟩ = cs.toList[off + i]? := fun i => by
    unfold World.cell?
    rw [hcell]
    simp
  refine ⟨b, off, c, cs, T', fz, rfl, hc, hcell, ?_⟩
  show List.take (l.length * 2) (List.drop off cs.toList) = l.flatMap pE2.enc.enc
  have len : (l.flatMap pE2.enc.enc).length = l.length * 2 := flat_length pE2 l
  apply List.ext_getElem?
  intro j
  by_cases hj : j < l.length * 2
  · rw [List.getElem?_take_of_lt hj, List.getElem?_drop, ← cell]
    have hk : j / 2 < l.length := by omega
    obtain ⟨e0, e1⟩ := he (j / 2) hk
    have g : ∀ f, f < 2 → (l.flatMap pE2.enc.enc)[j / 2 * 2 + f]? = (pE2.enc.enc (l.getD (j / 2) (0, 0)))[f]? := fun f hf => flat_get (E := pE2.enc) (xs := l) (j := j / 2) (f := f) hf hk
    rcases (show j % 2 = 0 ∨ j % 2 = 1 by omega) with hm | hm
    · have := g 0 (by omega)
      rw [show j / 2 * 2 + 0 = j by omega] at this
      rw [this, show off + j = off + j / 2 * 2 by omega, e0]
      rfl
    · have := g 1 (by omega)
      rw [show j / 2 * 2 + 1 = j by omega] at this
      rw [this, show off + j = off + j / 2 * 2 + 1 by omega, e1]
      rfl
  · rw [List.getElem?_eq_none (by simp; omega), List.getElem?_eq_none (by omega)]
/-- A contract of an instrument and a string, at arguments that come in. -/
theorem calls_instr {Φ : World → Prop} {f : FuncId} {k : Int} {l : List (Int × Int)} {s : ByteArray} {rd : Value} (h : RAns Tryd.prog Φ f [insA k l, .one (.v (.string s))] [.one (.v rd)]) {w : World} (hw : Φ w) {A : Option Addr} {c : Nat} (hc : l.length ≤ c) (hT : Tab w A l) :
    Calls Tryd.prog f #[.agg #[.int .i64 k, .slice A l.length c], .string s] w fun e w' => e = .returned rd ∧ Below w.heap.size w w' := by
  refine (h w [.agg #[.int .i64 k, .slice A l.length c], .string s] [.int .i64 k, .slice A l.length c, .string s] hw ⟨[_, _], _, rfl, rfl, rfl, ⟨_, rfl, rfl⟩⟩ ⟨rfl, tab_holds hT hc, rfl, trivial⟩).mono ?_
  rintro e w' ⟨hb, rvs, rcells, gs, he, hs, hcd, _⟩
  refine ⟨?_, hb⟩
  cases rvs with
  | nil => exact hs.elim
  | cons r rvs =>
    obtain ⟨cs, rfl, hs⟩ := hs
    cases rvs with
    | nil =>
      have : r = rd := hcd.1
      subst this
      exact he
    | cons _ _ => exact hs.elim
end Go.Proofs.YtkcelhhhbbpbpaaDoor
