/- A further entry: slices.Clone. -/
import Derived.Test.YtdjlickmjfpokaaAbs
import Derived.Test.YtdjlickmjfpokaaStrA
import Derived.Laws.Cover3
namespace Go.Proofs.Ytdjlickmjfpokaa
open Go Go.Abs Go.RowKit
set_option linter.unusedVariables false
set_option linter.unusedSimpArgs false
abbrev pE2 : ET := .pair (.int .i64) (.int .i64)
theorem err_info : ∃ i, Try.prog.info? 42 = some i ∧ i.size = 2 ∧ i.bytes = 16 ∧ i.zero = some (.agg #[.int .i64 0, .int .i64 0]) := by
  have h : (Try.prog.info? 42).map (fun i => (i.size, i.bytes, i.zero)) = some (2, 16, some (.agg #[.int .i64 0, .int .i64 0])) := by kernel_rfl
  cases e : Try.prog.info? 42 with
  | none => rw [e] at h; cases h
  | some i =>
    rw [e] at h
    simp only [Option.map_some, Option.some.injEq, Prod.mk.injEq] at h
    exact ⟨i, rfl, h.1, h.2.1, h.2.2⟩
theorem flat_one {xs : List (Int × Int)} : ∀ u ∈ xs.flatMap pE2.enc.enc, u.oneCell' = true := fun u hu => by
  obtain ⟨x, _, hx⟩ := List.mem_flatMap.1 hu
  exact pE2.enc.one x u hx
theorem holds_cells {w : World} {b off : Nat} {cs : Array Value} {T : TypeId} {fz : Nat × Nat} {l : List Value} (hh : w.heap[b]? = some (.cells cs T fz)) (he : (cs.toList.drop off).take l.length = l) : ∀ j u, l[j]? = some u → w.cell? ((⟨b, off, none⟩ : Addr).add j) = some u := fun j u hj => by
  have hlt : j < l.length := (List.getElem?_eq_some_iff.1 hj).1
  rw [addr_add]
  unfold World.cell?
  simp only [hh]
  rw [← he, List.getElem?_take_of_lt hlt, List.getElem?_drop] at hj
  simpa using hj
theorem o_clone {Φ : World → Prop} : ∀ ys, ys ≠ [] → ys.length ≤ 1000 → OAns Try.prog Φ 26 42 pE2 ys := by
  intro ys hne h1000 w v _ H
  obtain ⟨b, off, c, cs, T', fz, rfl, hc, hh, he⟩ := H.some' (fun e => hne (List.eq_nil_of_length_eq_zero e))
  have hb : b < w.heap.size := (Array.getElem?_eq_some_iff.1 hh).1
  have hl := flat_length pE2 ys
  have hlen : 0 < ys.length := List.length_pos_iff.2 hne
  obtain ⟨i, hi, hsz, hby, hz⟩ := err_info
  have hw1 : (w.alloc (.cells #[] 42)).heap[b]? = some (.cells cs T' fz) := by rw [Below.heap_alloc _ _ _ hb]; exact hh
  have hown : (w.alloc (.cells #[] 42)).ownsRow w.heap.size 42 2 (.slice (some ⟨w.heap.size, 0, none⟩) 0 0) 0 [] :=
    ⟨rfl, .inr ⟨w.heap.size, 0, #[], rfl, Nat.le_refl _, heap_alloc_new _ _, Nat.le_refl _, Nat.zero_le _, rfl, rfl⟩⟩
  have hcap : ys.length * 16 ≤ 140737488355328 ∧ ys.length ≤ maxLen := ⟨by omega, by unfold maxLen; omega⟩
  obtain ⟨v', w', hrun, ho, hg, hnil⟩ := run_append_own (P := Try.prog) (w.alloc (.cells #[] 42)) w.heap.size 28 28 42 i _ 2 16 Try.underlying28 hi hz hsz hby rfl (by decide) _ 0 [] hown ⟨b, off, none⟩ ys.length c (ys.flatMap pE2.enc.enc) hl (holds_cells hw1 (by rw [hl]; exact he)) flat_one (by rw [Nat.zero_add]; exact hcap.2) (by rw [Nat.zero_add]; exact hcap.1) (by simp)
  have hn : ∀ w, (binOp BinOp.eql 28 (Value.slice (some ⟨b, off, none⟩) ys.length c) (Value.slice none 0 0)).run Try.prog w = .ok (.bool false) w := fun w => by
    simp [binOp, run_equal_slice_nil w 28 _ _ _ _ Try.underlying28]
  go_enter Try.func26, Try.ntmps26
  go_wp2_with (first | simp only [hn, Result.andThen_ok] | at_builtin; refine Lib.wpList_append_run _ rfl _ _ _ _ rfl _ _ rfl rfl _ _ hrun ?_)
  refine bodyPost_ret (v := v') (by simp [results, Try.results26, go_sem]) rfl ⟨v', rfl, ?_, ?_, fun e => ?_⟩
  · refine Below.grown ((Below.refl _ w).alloc (Nat.le_refl _) _) hg (by simp) fun k hk => ?_
    cases hk
    exact Nat.le_refl _
  · rw [Nat.zero_add, List.nil_append] at ho
    exact ho
  · have := (hnil.1 e).1
    cases this
end Go.Proofs.Ytdjlickmjfpokaa
