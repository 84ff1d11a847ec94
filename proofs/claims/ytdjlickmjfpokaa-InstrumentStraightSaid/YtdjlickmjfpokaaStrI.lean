/- A further entry: slices.Insert. -/
import Derived.Test.YtdjlickmjfpokaaStrC
namespace Go.Proofs.Ytdjlickmjfpokaa
open Go Go.Abs Go.RowKit
set_option linter.unusedVariables false
set_option linter.unusedSimpArgs false
theorem run_size_err (w : World) : (Go.sizeOf 42).run Try.prog w = .ok 2 w := by
  obtain ⟨i, hi, hsz, hby, hz⟩ := err_info
  simp [sizeOf, typeInfo, hi, hsz]
theorem ins_all (xs : List (Int × Int)) (e : Int × Int) : ins xs xs.length e = xs ++ [e] := by unfold ins; simp
set_option maxHeartbeats 4000000 in
set_option maxRecDepth 100000 in
theorem ins_end (xs : List (Int × Int)) (e : Int × Int) (hl0 : 1 ≤ xs.length) (h1000 : xs.length ≤ 1000) : WAns Try.prog 25 42 pE2 xs xs.length [e] (ins xs xs.length e) := by
  intro B w v g c cs hB hown hne hh hcs hc hv
  obtain ⟨i, hi, hsz, hby, hz⟩ := err_info
  have hl := flat_length pE2 [e]
  have hin : xs.length ≤ xs.length := Nat.le_refl _
  have hce := holds_cells hh (by rw [List.drop_zero, hl]; exact hv)
  obtain ⟨v', w', hrun, ho, hg, hnil⟩ := run_append_own (P := Try.prog) w B 28 28 42 i _ 2 16 Try.underlying28 hi hz hsz hby rfl (by decide) v xs.length _ hown ⟨g, 0, none⟩ 1 c ([e].flatMap pE2.enc.enc) hl hce flat_one (by unfold maxLen; omega) (by omega) hB
  have hbk : ∀ k, v'.ownBlock = some k → v.ownBlock = some k ∨ w.heap.size ≤ k := fun k hk => app_block (P := Try.prog) Try.underlying28 hi hz (by rw [hsz]; exact hown) (show 0 < 1 by omega) (by rw [hsz]; exact hl) hce flat_one (by unfold maxLen; omega) (by rw [hby]; omega) hrun hk
  rcases hown.2 with ⟨rfl, q⟩ | ⟨b, cap, cur, rfl, hbB, hb, hnc, hcm, hcz, ht⟩
  · omega
  have hsz2 := run_size_err
  have hz1 : ¬ ((1 : Int) = 0) := by omega
  have hb3 : (xs.length : Int) ≤ (cap : Int) := by omega
  unfold maxLen at hcm
  have hnn : v' ≠ .slice none 0 0 := fun e => by have := (hnil.1 e).1; cases this
  have ho' : w'.ownsRow B 42 2 v' (ins xs xs.length e).length ((ins xs xs.length e).flatMap pE2.enc.enc) := by
    rw [ins_all, List.flatMap_append, List.length_append]; exact ho
  have H := Lib.hid (And.intro ho' (And.intro hg (And.intro hnn hbk)))
  clear hown hne hh hcs hv hl ho hg hnil hb ht hcz hbk hnn ho' hce
  go_enter Try.func25, Try.ntmps25
  go_wp2_with (at_builtin; refine Lib.wpList_append_run _ rfl _ _ _ _ rfl _ _ rfl rfl _ _ hrun ?_)
  all_goals exact bodyPost_ret (v := v') (by simp [results, Try.results25, go_sem]) rfl ⟨v', rfl, H.out⟩
theorem flat_take (xs : List (Int × Int)) (i : Nat) : (xs.take i).flatMap pE2.enc.enc = (xs.flatMap pE2.enc.enc).take (i * 2) := by
  induction xs generalizing i with
  | nil => simp
  | cons x xs ih =>
    cases i with
    | zero => simp
    | succ i =>
      rw [List.take_succ_cons, List.flatMap_cons, List.flatMap_cons, ih]
      have : (pE2.enc.enc x).length = 2 := pE2.enc.len x
      rw [List.take_append, this, show (i + 1) * 2 - 2 = i * 2 by omega, List.take_of_length_le (l := pE2.enc.enc x) (by omega)]
theorem flat_drop (xs : List (Int × Int)) (i : Nat) : (xs.drop i).flatMap pE2.enc.enc = (xs.flatMap pE2.enc.enc).drop (i * 2) := by
  induction xs generalizing i with
  | nil => simp
  | cons x xs ih =>
    cases i with
    | zero => simp
    | succ i =>
      rw [List.drop_succ_cons, List.flatMap_cons, ih]
      have : (pE2.enc.enc x).length = 2 := pE2.enc.len x
      have e2 : (pE2.enc.enc x).drop ((i + 1) * 2) = [] := List.drop_eq_nil_of_le (by omega)
      rw [List.drop_append, this, show (i + 1) * 2 - 2 = i * 2 by omega, e2, List.nil_append]
theorem flat_ins (xs : List (Int × Int)) (i : Nat) (e : Int × Int) : (ins xs i e).flatMap pE2.enc.enc = (xs.flatMap pE2.enc.enc).take (i * 2) ++ pE2.enc.enc e ++ (xs.flatMap pE2.enc.enc).drop (i * 2) := by
  unfold ins
  rw [List.flatMap_append, List.flatMap_cons, flat_take, flat_drop, List.append_assoc]
/-- Cells of a row after both copies. -/
def put (l : List Value) (o : Nat) (vs : List Value) : List Value := l.take o ++ vs ++ l.drop (o + vs.length)
theorem put_len {l : List Value} {o : Nat} {vs : List Value} (h : o + vs.length ≤ l.length) : (put l o vs).length = l.length := by
  unfold put
  simp
  omega
theorem take_app {α : Type} {a b : List α} {n : Nat} (h : n ≤ a.length) : (a ++ b).take n = a.take n := by
  rw [List.take_append, Nat.sub_eq_zero_of_le h]; simp
theorem drop_app {α : Type} {a b : List α} {n : Nat} (h : n = a.length) : (a ++ b).drop n = b := by
  subst h; simp
/-- What stands in a row of two cells an element after the later ones have moved, and one is written. -/
theorem put_two {l L vs : List Value} {i n : Nat} (hi : i ≤ n) (hL : L.length = n * 2) (hv : vs.length = 2) (hl : (n + 1) * 2 ≤ l.length) (ht : l.take (i * 2) = L.take (i * 2)) :
    (put (put l ((i + 1) * 2) (L.drop (i * 2))) (i * 2) vs).take ((n + 1) * 2) = L.take (i * 2) ++ vs ++ L.drop (i * 2) := by
  have hd : (L.drop (i * 2)).length = n * 2 - i * 2 := by simp [hL]
  have e1 : (put l ((i + 1) * 2) (L.drop (i * 2))).take (i * 2) = L.take (i * 2) := by
    unfold put
    rw [List.append_assoc, take_app (by simp; omega), List.take_take, Nat.min_eq_left (by omega), ht]
  have e2 : (put l ((i + 1) * 2) (L.drop (i * 2))).drop (i * 2 + 2) = L.drop (i * 2) ++ l.drop ((i + 1) * 2 + (n * 2 - i * 2)) := by
    unfold put
    rw [hd, List.append_assoc, drop_app (by simp; omega)]
  unfold put at *
  rw [hv, e1, e2, ← List.append_assoc, take_app (by simp [hL, hv]; omega)]
  exact List.take_of_length_le (by simp [hL, hv]; omega)
theorem put_two' {l L vs : List Value} {i n : Nat} (hi : i ≤ n) (hL : L.length = n * 2) (hv : vs.length = 2) (hl : (n + 1) * 2 ≤ l.length) (ht : l.take (i * 2) = L.take (i * 2)) :
    (put (put l (i * 2) vs) ((i + 1) * 2) (L.drop (i * 2))).take ((n + 1) * 2) = L.take (i * 2) ++ vs ++ L.drop (i * 2) := by
  have hd : (L.drop (i * 2)).length = n * 2 - i * 2 := by simp [hL]
  have e1 : (put l (i * 2) vs).take ((i + 1) * 2) = L.take (i * 2) ++ vs := by
    unfold put
    rw [take_app (by simp [hv]; omega), ht]
    exact List.take_of_length_le (by simp [hL, hv]; omega)
  unfold put at *
  rw [e1, take_app (by simp [hL, hv]; omega)]
  exact List.take_of_length_le (by simp [hL, hv]; omega)
theorem one_enc (e : Int × Int) : ∀ u ∈ pE2.enc.enc e, u.oneCell' = true := fun u hu => pE2.enc.one e u hu
set_option maxHeartbeats 4000000 in
set_option maxRecDepth 100000 in
theorem ins_shift (xs : List (Int × Int)) (i : Nat) (e : Int × Int) (h1000 : xs.length ≤ 1000) (hi : i < xs.length) (w : World) (b cap : Nat) (cur : Array Value) (hb : w.heap[b]? = some (.cells cur 42 (0, 0))) (hcm : cap ≤ maxLen) (hcz : cur.size = cap * 2) (ht : cur.toList.take (xs.length * 2) = xs.flatMap pE2.enc.enc) (hroom : xs.length + 1 ≤ cap)
    (g c : Nat) (cs : Array Value) (hne : g ≠ b) (hh : w.heap[g]? = some (.cells cs 42 (0, 0))) (hcs : cs.size = c * 2) (hc : 1 ≤ c) (hv : cs.toList.take 2 = pE2.enc.enc e) :
    Calls Try.prog 25 #[.slice (some ⟨b, 0, none⟩) xs.length cap, .int .i64 i, .slice (some ⟨g, 0, none⟩) 1 c] w fun e' w' => e' = .returned (.slice (some ⟨b, 0, none⟩) (xs.length + 1) cap) ∧
      ∃ cur', w'.heap[b]? = some (.cells cur' 42 (0, 0)) ∧ cur'.size = cap * 2 ∧ cur'.toList.take ((xs.length + 1) * 2) = (ins xs i e).flatMap pE2.enc.enc ∧ w.grownBy w' (some b) := by
  have hsz2 := run_size_err
  obtain ⟨inf, hinf, hsz, hby, hz⟩ := err_info
  have hs2 : (Try.prog.info? 42).map (·.size) = some 2 := by rw [hinf]; simp [hsz]
  have hz1 : ¬ ((1 : Int) = 0) := by omega
  have hz2 : ¬ ((i : Int) = (xs.length : Int)) := by omega
  have hw1 : IntKind.i64.wrap ((i : Int) + 1) = (i : Int) + 1 := by rw [IntKind.wrap_i64]; omega
  have hw2 : IntKind.i64.wrap ((xs.length : Int) + 1) = (xs.length : Int) + 1 := by rw [IntKind.wrap_i64]; omega
  have hL : (xs.flatMap pE2.enc.enc).length = xs.length * 2 := flat_length pE2 xs
  have hvl : (pE2.enc.enc e).length = 2 := pE2.enc.len e
  have hcl : cur.toList.length = cap * 2 := by rw [Array.length_toList]; exact hcz
  have hov : ∀ lb cb, (callFunc 36 #[.slice (some ⟨g, 0, none⟩) 1 c, .slice (some ⟨b, (i + 1) * 2, none⟩) lb cb]).run Try.prog w = .ok (.value (.bool false)) w := fun lb cb => by
    rw [run_callFunc_extern Try.func36 (by kernel_rfl) (by kernel_rfl) (by kernel_rfl) (e := Extern.SlicesOverlaps.overlaps #[28, 28] #[4]) (by kernel_rfl),
      Lib.run_overlaps_apart w 28 4 42 Try.underlying28 2 hsz2 ⟨g, 0, none⟩ ⟨b, (i + 1) * 2, none⟩ 1 c lb cb hne 42 42 cs.size cur.size (by simp [World.shape?, hh]) (by simp [World.shape?, hb]) (by omega) (by simp [World.frozen?, hh]) (by simp [World.frozen?, hh])]
    rfl
  have hlc : ∀ j v, (xs.flatMap pE2.enc.enc)[j]? = some v → w.cell? ⟨b, j, none⟩ = some v := fun j v hj => by
    have := holds_cells (off := 0) hb (by rw [List.drop_zero, hL, ht]) j v hj
    rwa [addr_add, Nat.zero_add] at this
  have hvc : ∀ j v, (pE2.enc.enc e)[j]? = some v → w.cell? ⟨g, j, none⟩ = some v := fun j v hj => by
    have := holds_cells (off := 0) hh (by rw [List.drop_zero, hvl, hv]) j v hj
    rwa [addr_add, Nat.zero_add] at this
  have hdl : ((xs.flatMap pE2.enc.enc).drop (i * 2)).length = xs.length * 2 - i * 2 := by rw [List.length_drop, hL]
  have hcp1 : ∀ ty dc sc, (Builtin.copy_ #[28, 28] ty #[.slice (some ⟨b, (i + 1) * 2, none⟩) (xs.length - i) dc, .slice (some ⟨b, i * 2, none⟩) (xs.length + 1 - i) sc]).run Try.prog w.drew =
      .ok (goInt (Nat.min (xs.length + 1 - i) (xs.length - i))) (w.drew.setRow b (put cur.toList ((i + 1) * 2) ((xs.flatMap pE2.enc.enc).drop (i * 2))).toArray) := fun ty dc sc =>
    run_copy_rowZ w.drew 28 28 ty 42 2 b ((i + 1) * 2) _ dc ⟨b, i * 2, none⟩ _ sc cur 42 _ Try.underlying28 hs2 hb (by rw [hdl]; show _ = min (xs.length + 1 - i) (xs.length - i) * 2; rw [Nat.min_eq_right (by omega)]; omega)
      (fun j v hj => by rw [addr_add]; rw [List.getElem?_drop] at hj; exact hlc _ v hj) (by rw [hdl]; omega) (fun v hv => flat_one v (List.mem_of_mem_drop hv))
  have hcp2 : ∀ (W : World), W.heap = (w.drew.setRow b (put cur.toList ((i + 1) * 2) ((xs.flatMap pE2.enc.enc).drop (i * 2))).toArray).heap → ∀ ty dc, (Builtin.copy_ #[28, 28] ty #[.slice (some ⟨b, i * 2, none⟩) (xs.length + 1 - i) dc, .slice (some ⟨g, 0, none⟩) 1 c]).run Try.prog W =
      .ok (goInt (Nat.min 1 (xs.length + 1 - i))) (W.setRow b (put (put cur.toList ((i + 1) * 2) ((xs.flatMap pE2.enc.enc).drop (i * 2))) (i * 2) (pE2.enc.enc e)).toArray) := fun W hW ty dc =>
    run_copy_rowZ W 28 28 ty 42 2 b (i * 2) _ dc ⟨g, 0, none⟩ _ c (put cur.toList ((i + 1) * 2) ((xs.flatMap pE2.enc.enc).drop (i * 2))).toArray 42 _ Try.underlying28 hs2 (by rw [hW]; exact setRow_heap _ _ _ _ _ _ hb) (by rw [hvl]; show _ = min 1 (xs.length + 1 - i) * 2; rw [Nat.min_eq_left (by omega)])
      (fun j v hj => by
        rw [addr_add, Nat.zero_add, World.cell?_of_block (w := w) (by rw [hW]; exact setRow_other _ _ _ _ hne)]
        exact hvc j v hj) (by rw [hvl, List.size_toArray, put_len (by rw [hdl]; omega)]; omega) (one_enc e)
  have hfin : ∀ W : World, W.heap = (w.drew.setRow b (put cur.toList ((i + 1) * 2) ((xs.flatMap pE2.enc.enc).drop (i * 2))).toArray).heap → W.os = w.os → W.tape = w.tape → W.output = w.output →
      ∃ cur', (W.setRow b (put (put cur.toList ((i + 1) * 2) ((xs.flatMap pE2.enc.enc).drop (i * 2))) (i * 2) (pE2.enc.enc e)).toArray).heap[b]? = some (.cells cur' 42 (0, 0)) ∧ cur'.size = cap * 2 ∧ cur'.toList.take ((xs.length + 1) * 2) = (ins xs i e).flatMap pE2.enc.enc ∧
        w.grownBy (W.setRow b (put (put cur.toList ((i + 1) * 2) ((xs.flatMap pE2.enc.enc).drop (i * 2))) (i * 2) (pE2.enc.enc e)).toArray) (some b) := fun W hW h1 h2 h3 => by
    refine ⟨_, setRow_heap _ _ _ _ _ _ (show W.heap[b]? = some (.cells (put cur.toList ((i + 1) * 2) ((xs.flatMap pE2.enc.enc).drop (i * 2))).toArray 42 (0, 0)) by rw [hW]; exact setRow_heap _ _ _ _ _ _ hb), ?_, ?_, ⟨h1, h2, h3, ?_, fun k hk hkb => ?_⟩⟩
    · rw [List.size_toArray, put_len (by rw [put_len (by rw [hdl]; omega), hvl]; omega), put_len (by rw [hdl]; omega), hcl]
    · rw [flat_ins, List.toList_toArray]
      refine put_two (by omega) hL hvl (by omega) ?_
      rw [← ht, List.take_take, Nat.min_eq_left (by omega)]
    · simp [World.setRow, hW]
    · rw [setRow_other _ _ _ _ (fun e => hkb (by rw [e])), hW, setRow_other _ _ _ _ (fun e => hkb (by rw [e]))]
      rfl
  have HF := Lib.hid hfin
  clear hfin hb hh hcs hv hlc hvc hdl hL hvl hcl ht hcz hne hs2
  unfold maxLen at hcm
  have mixed : Try.prog.follows Departure.mixedOrders = true := by kernel_rfl
  have hb2 : ¬ (cap = i + 1) := by omega
  have hb4 : ¬ (cap = i) := by omega
  have hb1 : (0 : Int) ≤ (i : Int) + 1 := by omega
  have hin : i ≤ xs.length := by omega
  have htn : ((i : Int) + 1).toNat = i + 1 := by omega
  have hb3 : (i : Int) ≤ (xs.length : Int) + 1 := by omega
  go_enter Try.func25, Try.ntmps25
  go_wp2_with (simp only [hov])
  go_region_law_o (refine step_copy_runI rfl _ _ 28 28 rfl _ _ (by simp [Act.eval, Act.put]) (by simp [Act.eval, Act.put]) (hcp1 _ _ _) ?_)
  go_wp2_with (at_builtin; refine wpList_copy_runI _ rfl _ _ 28 28 rfl _ _ rfl rfl (hcp2 _ rfl _ _) ?_)
  go_ret
  exact ⟨rfl, HF.out _ rfl rfl rfl rfl⟩
end Go.Proofs.Ytdjlickmjfpokaa
