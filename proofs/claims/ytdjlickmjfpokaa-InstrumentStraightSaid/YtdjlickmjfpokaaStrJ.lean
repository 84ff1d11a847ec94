/- A further entry: slices.Insert into a row without room; the whole contract. -/
import Derived.Test.YtdjlickmjfpokaaStrI
namespace Go.Proofs.Ytdjlickmjfpokaa
open Go Go.Abs Go.RowKit
set_option linter.unusedVariables false
set_option linter.unusedSimpArgs false
set_option maxHeartbeats 4000000 in
set_option maxRecDepth 100000 in
theorem ins_grow (xs : List (Int × Int)) (i : Nat) (e : Int × Int) (h1000 : xs.length ≤ 1000) (hi : i < xs.length) (w : World) (b cap : Nat) (cur : Array Value) (hb : w.heap[b]? = some (.cells cur 42 (0, 0))) (hnc : xs.length ≤ cap) (hcz : cur.size = cap * 2) (ht : cur.toList.take (xs.length * 2) = xs.flatMap pE2.enc.enc) (hroom : cap < xs.length + 1)
    (g c : Nat) (cs : Array Value) (hne : g ≠ b) (hh : w.heap[g]? = some (.cells cs 42 (0, 0))) (hcs : cs.size = c * 2) (hc : 1 ≤ c) (hv : cs.toList.take 2 = pE2.enc.enc e) :
    Calls Try.prog 25 #[.slice (some ⟨b, 0, none⟩) xs.length cap, .int .i64 i, .slice (some ⟨g, 0, none⟩) 1 c] w fun e' w' => ∃ G, e' = .returned (.slice (some ⟨w.heap.size, 0, none⟩) (xs.length + 1) G) ∧ xs.length + 1 ≤ G ∧ G ≤ maxLen ∧
      ∃ cur', w'.heap[w.heap.size]? = some (.cells cur' 42 (0, 0)) ∧ cur'.size = G * 2 ∧ cur'.toList.take ((xs.length + 1) * 2) = (ins xs i e).flatMap pE2.enc.enc ∧ w.grownBy w' (some b) := by
  have hsz2 := run_size_err
  obtain ⟨inf, hinf, hsz, hby, hz⟩ := err_info
  have hs2 : (Try.prog.info? 42).map (·.size) = some 2 := by rw [hinf]; simp [hsz]
  have hz1 : ¬ ((1 : Int) = 0) := by omega
  have hz2 : ¬ ((i : Int) = (xs.length : Int)) := by omega
  have hz3 : (cap : Int) < (xs.length : Int) + 1 := by omega
  have hw1 : IntKind.i64.wrap ((i : Int) + 1) = (i : Int) + 1 := by rw [IntKind.wrap_i64]; omega
  have hw2 : IntKind.i64.wrap ((xs.length : Int) + 1) = (xs.length : Int) + 1 := by rw [IntKind.wrap_i64]; omega
  have hL : (xs.flatMap pE2.enc.enc).length = xs.length * 2 := flat_length pE2 xs
  have hvl : (pE2.enc.enc e).length = 2 := pE2.enc.len e
  have hbw : b < w.heap.size := (Array.getElem?_eq_some_iff.1 hb).1
  have hgw : g < w.heap.size := (Array.getElem?_eq_some_iff.1 hh).1
  have hlc : ∀ j v, (xs.flatMap pE2.enc.enc)[j]? = some v → w.cell? ⟨b, j, none⟩ = some v := fun j v hj => by
    have := holds_cells (off := 0) hb (by rw [List.drop_zero, hL, ht]) j v hj
    rwa [addr_add, Nat.zero_add] at this
  have hvc : ∀ j v, (pE2.enc.enc e)[j]? = some v → w.cell? ⟨g, j, none⟩ = some v := fun j v hj => by
    have := holds_cells (off := 0) hh (by rw [List.drop_zero, hvl, hv]) j v hj
    rwa [addr_add, Nat.zero_add] at this
  have hdl : ((xs.flatMap pE2.enc.enc).drop (i * 2)).length = xs.length * 2 - i * 2 := by rw [List.length_drop, hL]
  have hkk : (xs.length : Int) + 1 - (i : Int) = ((xs.length + 1 - i : Nat) : Int) := by omega
  have hik : i + (xs.length + 1 - i) = xs.length + 1 := by omega
  have hold : (Builtin.firstCells inf.size i (.slice (some ⟨b, 0, none⟩) i cap)).run Try.prog w.drew = .ok ((xs.flatMap pE2.enc.enc).take (i * 2)).toArray w.drew := by
    rw [hsz]
    exact run_firstCells_some w.drew 2 i ⟨b, 0, none⟩ i cap _ (by rw [List.length_take, hL]; omega) (fun j v hj => by
      rw [addr_add, Nat.zero_add]
      rw [List.getElem?_take] at hj
      split at hj
      · exact hlc j v hj
      · cases hj)
  obtain ⟨G, hG⟩ : ∃ G, G = grownCap w (xs.length + 1) cap 42 := ⟨_, rfl⟩
  obtain ⟨ROW, hROW⟩ : ∃ ROW : Array Value, ROW = ((xs.flatMap pE2.enc.enc).take (i * 2)).toArray ++ Builtin.zeroCells (Value.agg #[.int .i64 0, .int .i64 0]).cells (xs.length + 1 - i) ++ Builtin.zeroCells (Value.agg #[.int .i64 0, .int .i64 0]).cells (G - (xs.length + 1)) := ⟨_, rfl⟩
  have hrz : ∀ ty, (Builtin.append_ #[28, 3] ty #[.slice (some ⟨b, 0, none⟩) i cap, .int .i64 ((xs.length : Int) + 1 - (i : Int))]).run Try.prog w =
      .ok (.slice (some ⟨w.heap.size, 0, none⟩) (xs.length + 1) G) (w.drew.alloc (.cells ROW 42)) := fun ty => by
    have h := Lib.run_append_grow_zeros w 28 3 ty 42 inf _ .i64 .i64 Try.underlying28 Try.underlying3 hinf hz (some ⟨b, 0, none⟩) i cap _ hold (xs.length + 1 - i) (by omega) (by omega) (by omega) (by omega) (by rw [hby]; omega) (by rw [hby, hik]; exact growslice_fits hroom (by omega))
    rw [hik, ← hG, ← hROW] at h
    rw [hkk]
    exact h
  have hGn : xs.length + 1 ≤ G := by rw [hG]; exact grownCap_ge w _ _ _
  have hG63 : G ≤ 9223372036854775807 := by
    have := grownCap_le_maxLen w (xs.length + 1) cap 42 (by unfold maxLen; omega)
    rw [← hG] at this
    unfold maxLen at this
    omega
  have hRl : ROW.size = G * 2 := by
    rw [hROW]
    simp only [Array.size_append, List.size_toArray, List.length_take, hL, size_zeroCells]
    rw [show (Value.agg #[Value.int IntKind.i64 0, Value.int IntKind.i64 0]).cells.size = 2 from rfl]
    omega
  have hRt : ROW.toList.take (i * 2) = (xs.flatMap pE2.enc.enc).take (i * 2) := by
    rw [hROW, Array.toList_append, Array.toList_append, List.append_assoc, List.toList_toArray, take_app (by rw [List.length_take, hL]; omega)]
    exact List.take_of_length_le (by rw [List.length_take]; omega)
  have hRo : ROW.toList.length = G * 2 := by rw [Array.length_toList]; exact hRl
  obtain ⟨W1, hW1⟩ : ∃ W1, W1 = w.drew.alloc (.cells ROW 42) := ⟨_, rfl⟩
  have hWs : W1.heap[w.heap.size]? = some (.cells ROW 42 (0, 0)) := by rw [hW1]; exact heap_alloc_new w.drew _
  have hWo : ∀ k, k < w.heap.size → W1.heap[k]? = w.heap[k]? := fun k hk => by rw [hW1]; exact Below.heap_alloc (w := w.drew) _ k hk
  have hWz : W1.heap.size = w.heap.size + 1 := by rw [hW1]; simp
  have hcpA : ∀ (W : World), W.heap = W1.heap → ∀ ty dc, (Builtin.copy_ #[28, 28] ty #[.slice (some ⟨w.heap.size, i * 2, none⟩) (xs.length + 1 - i) dc, .slice (some ⟨g, 0, none⟩) 1 c]).run Try.prog W =
      .ok (goInt (Nat.min 1 (xs.length + 1 - i))) (W.setRow w.heap.size (put ROW.toList (i * 2) (pE2.enc.enc e)).toArray) := fun W hW ty dc =>
    run_copy_rowZ W 28 28 ty 42 2 w.heap.size (i * 2) _ dc ⟨g, 0, none⟩ _ c ROW 42 _ Try.underlying28 hs2 (by rw [hW]; exact hWs) (by rw [hvl]; show _ = min 1 (xs.length + 1 - i) * 2; rw [Nat.min_eq_left (by omega)])
      (fun j v hj => by
        rw [addr_add, Nat.zero_add, World.cell?_of_block (w := w) (by rw [hW]; exact hWo g hgw)]
        exact hvc j v hj) (by rw [hvl, hRl]; omega) (one_enc e)
  have hcpB : ∀ (W : World), W.heap = (W1.setRow w.heap.size (put ROW.toList (i * 2) (pE2.enc.enc e)).toArray).heap → ∀ ty dc sc, (Builtin.copy_ #[28, 28] ty #[.slice (some ⟨w.heap.size, (i + 1) * 2, none⟩) (xs.length - i) dc, .slice (some ⟨b, i * 2, none⟩) (xs.length - i) sc]).run Try.prog W =
      .ok (goInt (Nat.min (xs.length - i) (xs.length - i))) (W.setRow w.heap.size (put (put ROW.toList (i * 2) (pE2.enc.enc e)) ((i + 1) * 2) ((xs.flatMap pE2.enc.enc).drop (i * 2))).toArray) := fun W hW ty dc sc =>
    run_copy_rowZ W 28 28 ty 42 2 w.heap.size ((i + 1) * 2) _ dc ⟨b, i * 2, none⟩ _ sc (put ROW.toList (i * 2) (pE2.enc.enc e)).toArray 42 _ Try.underlying28 hs2 (by rw [hW]; exact setRow_heap _ _ _ _ _ _ hWs) (by rw [hdl]; show _ = min (xs.length - i) (xs.length - i) * 2; rw [Nat.min_self]; omega)
      (fun j v hj => by
        rw [addr_add, World.cell?_of_block (w := w) (by rw [hW, setRow_other _ _ _ _ (by show b ≠ _; omega)]; exact hWo b hbw)]
        rw [List.getElem?_drop] at hj
        exact hlc _ v hj) (by rw [hdl, List.size_toArray, put_len (by rw [hvl, hRo]; omega), hRo]; omega) (fun v hv => flat_one v (List.mem_of_mem_drop hv))
  have hfin : ∀ W : World, W.heap = (W1.setRow w.heap.size (put ROW.toList (i * 2) (pE2.enc.enc e)).toArray).heap → W.os = w.os → W.tape = w.tape → W.output = w.output →
      ∃ cur', (W.setRow w.heap.size (put (put ROW.toList (i * 2) (pE2.enc.enc e)) ((i + 1) * 2) ((xs.flatMap pE2.enc.enc).drop (i * 2))).toArray).heap[w.heap.size]? = some (.cells cur' 42 (0, 0)) ∧ cur'.size = G * 2 ∧ cur'.toList.take ((xs.length + 1) * 2) = (ins xs i e).flatMap pE2.enc.enc ∧
        w.grownBy (W.setRow w.heap.size (put (put ROW.toList (i * 2) (pE2.enc.enc e)) ((i + 1) * 2) ((xs.flatMap pE2.enc.enc).drop (i * 2))).toArray) (some b) := fun W hW h1 h2 h3 => by
    refine ⟨_, setRow_heap _ _ _ _ _ _ (show W.heap[w.heap.size]? = some (.cells (put ROW.toList (i * 2) (pE2.enc.enc e)).toArray 42 (0, 0)) by rw [hW]; exact setRow_heap _ _ _ _ _ _ hWs), ?_, ?_, ⟨h1, h2, h3, ?_, fun k hk hkb => ?_⟩⟩
    · rw [List.size_toArray, put_len (by rw [put_len (by rw [hvl, hRo]; omega), hdl, hRo]; omega), put_len (by rw [hvl, hRo]; omega), hRo]
    · rw [flat_ins, List.toList_toArray]
      exact put_two' (by omega) hL hvl (by omega) hRt
    · simp [World.setRow, hW, hWz]
    · rw [setRow_other _ _ _ _ (by omega), hW, setRow_other _ _ _ _ (by omega)]
      exact hWo k hk
  have HF := Lib.hid hfin
  clear hfin hb hh hcs hv hlc hvc hdl hL hvl ht hcz hne hs2 hkk hik hold hROW hG hRl hRt hRo hWs hWo hWz
  have mixed : Try.prog.follows Departure.mixedOrders = true := by kernel_rfl
  have hGi : ¬ (G = i) := by omega
  have hGim : ¬ (G = i + 1) := by omega
  have hci : ¬ (cap = i) := by omega
  have hb1 : (0 : Int) ≤ (i : Int) + 1 := by omega
  have hin : i ≤ xs.length := by omega
  have htn : ((i : Int) + 1).toNat = i + 1 := by omega
  have hb3 : (i : Int) ≤ (xs.length : Int) := by omega
  subst hW1
  have hE : ((w.alloc (.cells ROW 42)).drew).heap = (w.drew.alloc (.cells ROW 42)).heap := rfl
  have hF : (((w.alloc (.cells ROW 42)).drew.setRow w.heap.size (put ROW.toList (i * 2) (pE2.enc.enc e)).toArray).drew).heap = ((w.drew.alloc (.cells ROW 42)).setRow w.heap.size (put ROW.toList (i * 2) (pE2.enc.enc e)).toArray).heap := rfl
  go_enter Try.func25, Try.ntmps25
  go_wp2_with (first
    | (at_builtin; refine Lib.wpList_append_run _ rfl _ _ _ _ rfl _ _ rfl rfl _ _ (hrz _) ?_)
    | (at_builtin; refine wpList_copy_runI _ rfl _ _ 28 28 rfl _ _ rfl rfl (hcpA _ hE _ _) ?_))
  go_region_law_o (refine step_copy_runI rfl _ _ 28 28 rfl (.slice (some ⟨w.heap.size, (i + 1) * 2, none⟩) (xs.length - i) (G - (i + 1))) (.slice (some ⟨b, i * 2, none⟩) (xs.length - i) (cap - i)) (by simp [Act.eval, Act.put]) (by simp [Act.eval, Act.put]) (hcpB _ hF 3 (G - (i + 1)) (cap - i)) ?_)
  go_wp2
  go_ret
  exact ⟨G, rfl, hGn, hG63, HF.out _ hF rfl rfl rfl⟩
theorem w_insert (xs : List (Int × Int)) (i : Nat) (e : Int × Int) (hl0 : 1 ≤ xs.length) (h1000 : xs.length ≤ 1000) (hi : i ≤ xs.length) : WAns Try.prog 25 42 pE2 xs i [e] (ins xs i e) := by
  by_cases q : i = xs.length
  · subst q
    exact ins_end xs e hl0 h1000
  intro B w v g c cs hB hown hne hh hcs hc hv
  rcases hown.2 with ⟨rfl, q⟩ | ⟨b, cap, cur, rfl, hbB, hb, hnc, hcm, hcz, ht⟩
  · omega
  have hgb : g ≠ b := fun e => hne (by rw [e]; rfl)
  have hv' : cs.toList.take 2 = pE2.enc.enc e := by
    have := hv
    simp at this
    exact this
  have hlen := ins_len (e := e) hi
  by_cases room : xs.length + 1 ≤ cap
  · refine (ins_shift xs i e h1000 (by omega) w b cap cur hb hcm hcz ht room g c cs hgb hh hcs hc hv').mono ?_
    rintro e' w' ⟨rfl, cur', h1, h2, h3, h4⟩
    refine ⟨_, rfl, ⟨flat_length pE2 _, .inr ⟨b, cap, cur', by rw [hlen], hbB, h1, by omega, hcm, h2, by rw [hlen]; exact h3⟩⟩, h4, by simp, fun k hk => .inl hk⟩
  · refine (ins_grow xs i e h1000 (by omega) w b cap cur hb hnc hcz ht (by omega) g c cs hgb hh hcs hc hv').mono ?_
    rintro e' w' ⟨G, rfl, hG, hm, cur', h1, h2, h3, h4⟩
    refine ⟨_, rfl, ⟨flat_length pE2 _, .inr ⟨w.heap.size, G, cur', by rw [hlen], hB, h1, by omega, hm, h2, by rw [hlen]; exact h3⟩⟩, h4, by simp, fun k hk => .inr ?_⟩
    cases hk
    exact Nat.le_refl _
end Go.Proofs.Ytdjlickmjfpokaa
