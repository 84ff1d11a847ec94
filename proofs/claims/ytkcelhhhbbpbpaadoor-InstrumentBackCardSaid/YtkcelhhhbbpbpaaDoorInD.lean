/- Contracts: texts of instruments, whether they are valid, and equal. -/
import Derived.Test.YtkcelhhhbbpbpaaDoorInC
import Derived.Test.YtkcelhhhbbpbpaaDoorMrgW
namespace Go.Proofs.YtkcelhhhbbpbpaaDoor
open Go Go.Abs Go.RowKit
set_option linter.unusedVariables false
set_option linter.unusedSimpArgs false
theorem cell_heap {w : World} {b o : Nat} {cs : Array Value} {T : TypeId} {fz : Nat × Nat} {v : Value} (h : w.heap[b]? = some (.cells cs T fz)) (hv : cs.toList[o]? = some v) : w.cell? ⟨b, o, none⟩ = some v := by
  unfold World.cell?
  simp only [h]
  simpa using hv
theorem tab_of {w : World} {v : Value} {xs : List (Int × Int)} (H : Holds w v 48 pE2 xs) : ∃ A c, v = .slice A xs.length c ∧ Tab w A xs := by
  by_cases h0 : xs.length = 0
  · obtain ⟨a, c, rfl⟩ := H.zero h0
    exact ⟨a, c, by rw [h0], fun h => by omega⟩
  · obtain ⟨b, off, c, cs, T', fz, rfl, hc, hh, he⟩ := H.some' h0
    refine ⟨_, c, rfl, fun _ => ⟨b, off, rfl, ?_, fun k hk => ?_⟩⟩
    · rw [Array.getElem?_eq_some_iff] at hh
      exact hh.1
    · have he' : (cs.toList.drop (off)).take (xs.length * 2) = xs.flatMap pE2.enc.enc := he
      have g : ∀ f, f < 2 → cs.toList[off + (k * 2 + f)]? = (pE2.enc.enc (xs.getD k (0, 0)))[f]? := fun f hf => by
        have e := flat_get (E := pE2.enc) (xs := xs) (j := k) (f := f) hf hk
        rw [← he', List.getElem?_take_of_lt (by show k * 2 + f < _; omega), List.getElem?_drop] at e
        exact e
      refine ⟨cell_heap hh ?_, cell_heap hh ?_⟩
      · have := g 0 (by omega)
        rw [Nat.add_zero] at this
        rw [this]
        rfl
      · have := g 1 (by omega)
        rw [show off + k * 2 + 1 = off + (k * 2 + 1) by omega, this]
        rfl
/-- A contract of a valid instrument, as the machine wants it. -/
theorem r_of_tab {Φ : World → Prop} {f : FuncId} {k : Int} {xs : List (Int × Int)} {rd : Value} (h : ∀ w, Φ w → ∀ A c, Tab w A xs → Calls Tryd.prog f #[.agg #[.int .i64 k, .slice A xs.length c]] w fun e w' => e = .returned rd ∧ Below w.heap.size w w') :
    RAns Tryd.prog Φ f [insA k xs] [.one (.v rd)] := by
  rintro w vs cells hw hsh hcd
  match vs, hsh with
  | [v], hsh =>
    obtain ⟨us, cs, e1, hl, e2, e3⟩ := hsh
    have e3 : cs = [] := e3
    subst e3
    match us, hl, e1, e2 with
    | [u1, u2], _, e1, e2 =>
      subst e1
      have e2 : cells = [u1, u2] := e2
      subst e2
      obtain ⟨h1, h2, _⟩ := hcd
      have h1 : u1 = num k := h1
      subst h1
      obtain ⟨A, c, e4, hT⟩ := tab_of h2
      subst e4
      refine (h w hw A c hT).mono ?_
      rintro e w' ⟨rfl, hb⟩
      exact ⟨hb, [rd], [rd], [], rfl, ⟨[], rfl, rfl⟩, ⟨rfl, rfl⟩, by simp⟩
theorem r_valid {Φ : World → Prop} (k : Int) (xs : List (Int × Int)) : RAns Tryd.prog Φ 13 [insA k xs] [.one (.v (.bool (vldB k xs)))] := r_of_tab fun w _ A c hT => inValid_any k A c xs w hT
theorem r_rfValid {Φ : World → Prop} (k : Int) (xs : List (Int × Int)) : RAns Tryd.prog Φ 8 [insA k xs] [.one (.v (.bool (vldB k xs)))] := r_of_tab fun w _ A c hT => rfValid_any k A c xs w hT
theorem tkE {α : Type} {x : List α} {p : List α → Prop} (h : p x) : 0 + x.length ≤ x.length ∧ ∀ z, z = List.take x.length x → p z :=
  ⟨by omega, fun z hz => by rw [hz, List.take_length]; exact h⟩
theorem textL_len {n : Int} (h : n.natAbs ≤ 1099511627776) : (textL n).length ≤ 31 := by
  unfold textL
  have := core_short n.natAbs h
  split
  · rw [List.length_cons]; omega
  · omega
theorem entsT_snoc (t : List (Int × Int)) (e : Int × Int) : entsT (t ++ [e]) = entsT t ++ (entT e ++ [10]) := by unfold entsT; rw [List.flatMap_append]; simp
theorem entT_len {e : Int × Int} (h : Fits2 e) : (entT e).length ≤ 69 := by
  have h1 := textL_len h.1
  have h2 := textL_len h.2
  unfold entT errW
  simp only [List.length_append, List.length_cons, List.length_nil]
  omega
theorem entsT_len : ∀ (t : List (Int × Int)), (∀ e ∈ t, Fits2 e) → (entsT t).length ≤ 70 * t.length
  | [], _ => Nat.zero_le _
  | e :: t, h => by
    have h1 := entT_len (h e (by simp))
    have h2 := entsT_len t (fun x hx => h x (by simp [hx]))
    have he : entsT (e :: t) = entT e ++ 10 :: entsT t := by unfold entsT; simp
    rw [he, List.length_append, List.length_cons, List.length_cons]
    omega
theorem insT_len {k : Int} {t : List (Int × Int)} (hk : k.natAbs ≤ 1099511627776) (h : ∀ e ∈ t, Fits2 e) : (insT k t).length ≤ 38 + 70 * t.length := by
  have h1 := textL_len hk
  have h2 := entsT_len t h
  unfold insT idxW
  simp only [List.length_append, List.length_cons, List.length_nil]
  omega
theorem take_snoc {t : List (Int × Int)} {i : Nat} (h : i < t.length) : t.take (i + 1) = t.take i ++ [t.getD i (0, 0)] := by
  rw [← List.take_append_getElem h, List.getD_eq_getElem?_getD, List.getElem?_eq_getElem h, Option.getD_some]
theorem mkz (l : List UInt8) : (ByteArray.mk l.toArray).size = l.length := by simp [ByteArray.size]
theorem insB_zero (k : Int) (xs : List (Int × Int)) : ByteArray.mk #[105, 110, 100, 101, 120, 32] ++ textB k ++ ByteArray.mk #[10] = insB k xs 0 := by
  unfold insB insT textB
  rw [show (ByteArray.mk #[105, 110, 100, 101, 120, 32]) = ⟨idxW.toArray⟩ from rfl, show (ByteArray.mk #[10]) = ⟨[10].toArray⟩ from rfl, bytes_app, bytes_app]
  rfl
theorem insB_step {k : Int} {xs : List (Int × Int)} {i : Nat} (h : i < xs.length) :
    insB k xs i ++ (ByteArray.mk #[101, 114, 114, 111, 114, 32] ++ textB (xs.getD i (0, 0)).1 ++ ByteArray.mk #[32] ++ textB (xs.getD i (0, 0)).2 ++ ByteArray.mk #[10]) = insB k xs (i + 1) := by
  unfold insB insT textB
  rw [take_snoc h, entsT_snoc, show (ByteArray.mk #[101, 114, 114, 111, 114, 32]) = ⟨errW.toArray⟩ from rfl, show (ByteArray.mk #[10]) = ⟨[10].toArray⟩ from rfl, show (ByteArray.mk #[32]) = ⟨[32].toArray⟩ from rfl, bytes_app, bytes_app, bytes_app, bytes_app, bytes_app]
  congr 2
  unfold entT
  simp
end Go.Proofs.YtkcelhhhbbpbpaaDoor
