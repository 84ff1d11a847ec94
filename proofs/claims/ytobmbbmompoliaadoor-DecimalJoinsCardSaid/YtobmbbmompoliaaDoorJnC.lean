/- Tokens are read again: the Builder's two methods in the machine's words. The walk of String is the library's, with another frame. -/
import Derived.Test.YtobmbbmompoliaaDoorJnS
import Derived.Shelf.Strings.Builder1
set_option linter.unusedVariables false
set_option linter.unusedSimpArgs false
namespace Go.Proofs.YtobmbbmompoliaaDoor
section
open Go.Shelf Go.RowKit
theorem grown_freeze {w : World} (g n : Nat) : w.grownBy (w.drew.freeze ⟨g, 0, none⟩ n) (some g) := by
  unfold World.freeze
  split
  · exact ⟨rfl, rfl, rfl, Nat.le_refl _, fun _ _ _ => rfl⟩
  · refine ⟨rfl, rfl, rfl, by simp only [Array.size_modify]; exact Nat.le_refl _, fun k hk hne => ?_⟩
    have : g ≠ k := fun e => hne (by rw [e])
    simp only [Array.getElem?_modify]
    rw [if_neg this]
    rfl
variable {P : Program} {ρ : Ren}
set_option maxHeartbeats 2000000 in
set_option maxRecDepth 100000 in
theorem string_any (L : Lays.n169 P ρ) (X : Builder.Extra P ρ) (B b : Nat) (p v : Value) (l : List UInt8) (w : World) (hbk : w.heap[b]? = some (.cells #[p, v] (ρ.t 72) (0, 0))) (hown : w.ownsRow B (ρ.t 5) 1 v l.length (Lib.byteCells l)) (h0 : l ≠ []) :
    Calls P (ρ.f 169) #[.pointer (some ⟨b, 0, none⟩)] w fun e w' => e = .returned (.string ⟨l.toArray⟩) ∧ w.grownBy w' v.ownBlock := by
  have hl0 : l.length ≠ 0 := by simpa using h0
  obtain ⟨g, cap, cur, rfl, hbg, hg, hnc, hcm, hcs, htake⟩ : ∃ g cap cur, v = .slice (some ⟨g, 0, none⟩) l.length cap ∧ B ≤ g ∧ w.heap[g]? = some (.cells cur (ρ.t 5) (0, 0)) ∧ l.length ≤ cap ∧ cap ≤ maxLen ∧ cur.size = cap * 1 ∧ cur.toList.take (l.length * 1) = Lib.byteCells l := by
    rcases hown.2 with ⟨_, hz⟩ | ⟨g, cap, cur, hv, r⟩
    · exact absurd hz hl0
    · exact ⟨g, cap, cur, hv, r⟩
  have c1 : w.drew.cell? ⟨b, 1, none⟩ = some (.slice (some ⟨g, 0, none⟩) l.length cap) := by
    have : w.drew.heap[b]? = some (.cells #[p, .slice (some ⟨g, 0, none⟩) l.length cap] (ρ.t 72) (0, 0)) := hbk
    rw [Lib.cell_of_heap this]; rfl
  have hSD : (Builtin.unsafeSliceData_ #[(ρ.t 37)] (ρ.t 127) #[.slice (some ⟨g, 0, none⟩) l.length cap]).run P w.drew = .ok (.pointer (some ⟨g, 0, none⟩)) w.drew :=
    Lib.run_unsafeSliceData_row _ _ _ _ _ _ (by omega)
  have hUS : (Builtin.unsafeString_ #[(ρ.t 127), (ρ.t 3)] (ρ.t 9) #[.pointer (some ⟨g, 0, none⟩), .int .i64 l.length]).run P w.drew = .ok (.string ⟨l.toArray⟩) (w.drew.freeze ⟨g, 0, none⟩ l.length) := by
    refine Lib.run_unsafeString_row w.drew (ρ.t 127) (ρ.t 3) (ρ.t 9) (ρ.t 5) L.t127 X.cellsByte g cur.size (by have hg' : w.drew.heap[g]? = some (.cells cur (ρ.t 5) (0, 0)) := hg; simp [World.shape?, hg']) l h0 (by omega) (by unfold maxLen at hcm; omega) ?_
    intro j x hx
    have := hown.cells (g := g) rfl j (.int .u8 x.toNat) (by simp [Lib.byteCells, hx])
    exact this
  have mixed := L.mixed
  have t72 := L.t72; have a72 := L.a72; have z72 := L.z72; have v72 := L.v72; have u72 := run_underlying L.t72
  have t70 := L.t70; have a70 := L.a70; have z70 := L.z70; have v70 := L.v70; have u70 := run_underlying L.t70
  have t37 := L.t37; have a37 := L.a37; have z37 := L.z37; have v37 := L.v37; have u37 := run_underlying L.t37
  have t127 := L.t127; have a127 := L.a127; have z127 := L.z127; have v127 := L.v127; have u127 := run_underlying L.t127
  have t3 := L.t3; have a3 := L.a3; have z3 := L.z3; have v3 := L.v3; have u3 := run_underlying L.t3
  have t9 := L.t9; have a9 := L.a9; have z9 := L.z9; have v9 := L.v9; have u9 := run_underlying L.t9
  have t5 := X.t5; have a5 := X.a5; have z5 := X.z5; have v5 := X.v5; have u5 := run_underlying X.t5
  go_enter L.f169, Body.n169_ntmps ρ
  go_wp2
  go_region_o
  all_goals (go_wp2; go_ret; exact ⟨rfl, grown_freeze g _⟩)
end
section
open Go Go.Abs Go.RowKit
theorem ck_ok : InlOk Tryd.prog Vs 18 (ckS 36) := by
  intro B w0 args hp K w ρ vs hs _ hR hr
  unfold ckS at hs
  split at hs
  · rename_i k
    split at hs
    · rename_i b hb
      split at hs
      · rename_i c0 d hrow hcs
        cases hm : (isMine b && (Nat.beq b.T 36 && isSelf k c0)) with
        | false => simp [hm] at hs
        | true =>
          simp only [hm, cond_true] at hs
          simp only [Bool.and_eq_true] at hm
          obtain ⟨m1, m2, m3⟩ := hm
          have m1 := isMine_iff m1
          have m2 := Nat.eq_of_beq_eq_true m2
          match vs, hr with
          | [v], ⟨hv, _⟩ =>
          obtain ⟨n, hn, rfl⟩ := hv
          have hl : b.live := Blk.live_of m1 hrow
          obtain ⟨_, cs, hL, hf⟩ := hR.blk k n b hn hb hl
          have h1 := hL.own m1
          unfold Blk.fit at hf
          rw [hrow] at hf
          obtain ⟨f1, f2⟩ := hf
          rw [hcs] at f1 f2
          have hsh : w.shape? n = some (36, 2) := by
            simp [World.shape?, h1, m2, f1]
          have hfz := hR.frozen (o := 0) hn hb hl m1
          obtain ⟨u, hu, hur⟩ := hR.cell (o := 0) hn hb hl hrow (by rw [hcs]; exact Nat.zero_lt_succ _)
          rw [hcs] at hur
          unfold isSelf at m3
          split at m3
          · have hur : u = .pointer none := hur
            subst hur
            refine (copyCheck_fresh n w hu hsh hfz).mono ?_
            rintro e w' ⟨rfl, rfl⟩
            have hP := hR.put (a := .p k 0) (v := .pointer (some ⟨n, 0, none⟩)) hn hb hrow m1 (o := 0) (by rw [hcs]; exact Nat.zero_lt_succ _) ⟨n, hn, rfl⟩
            refine ⟨ρ, _, _, _, rfl, Ext.refl ρ, ?_, R_v _, hs⟩
            rw [hpF_bset hp hb]
            rw [hcs] at hP
            cases b
            cases hrow
            exact hP
          · rename_i j
            have m3 := Nat.eq_of_beq_eq_true m3
            subst m3
            obtain ⟨n', hn', rfl⟩ := hur
            rw [hn] at hn'
            cases hn'
            refine (copyCheck_used n w hu).mono ?_
            rintro e w' ⟨rfl, rfl⟩
            refine ⟨ρ, _, _, _, rfl, Ext.refl ρ, ?_, R_v _, hs⟩
            rw [bset_self _ _ _ (by
              rw [hb]
              cases b
              cases hrow
              cases hcs
              rfl)]
            exact hR
          · cases m3
      · exact hs.elim
    · exact hs.elim
  · exact hs.elim
theorem bo_list (l : List UInt8) : boI (l.map fun b => (b.toNat : Int)) = ⟨l.toArray⟩ := by
  unfold boI
  rw [List.map_map]
  congr 1
  rw [show ((fun x : Int => x.toNat.toUInt8) ∘ fun b : UInt8 => (b.toNat : Int)) = id from funext fun b => by simp, List.map_id]
theorem by_flat (l : List UInt8) : (l.map fun b => (b.toNat : Int)).flatMap (ET.int .u8).enc.enc = Lib.byteCells l := by
  unfold Lib.byteCells
  rw [List.flatMap_map]
  simp only [ET.enc, encI, ← List.map_eq_flatMap]
theorem st_ok : InlOk Tryd.prog Vs 10 (stS 36 5 boI) := by
  intro B w0 args hp K w ρ vs hs _ hR hr
  unfold stS at hs
  split at hs
  · rename_i k
    split at hs
    · rename_i b hb
      split at hs
      · rename_i c0 d hrow hcs
        cases hm : (isMine b && Nat.beq b.T 36) with
        | false => simp [hm] at hs
        | true =>
          simp only [hm, cond_true] at hs
          simp only [Bool.and_eq_true] at hm
          obtain ⟨m1, m2⟩ := hm
          have m1 := isMine_iff m1
          have m2 := Nat.eq_of_beq_eq_true m2
          match vs, hr with
          | [v], ⟨hv, _⟩ =>
          obtain ⟨n, hn, rfl⟩ := hv
          have hl : b.live := Blk.live_of m1 hrow
          obtain ⟨_, cs, hL, hf⟩ := hR.blk k n b hn hb hl
          have h1 := hL.own m1
          unfold Blk.fit at hf
          rw [hrow] at hf
          obtain ⟨f1, f2⟩ := hf
          rw [hcs] at f1 f2
          obtain ⟨p, u, rfl⟩ : ∃ p u, cs = #[p, u] := by
            have f1 : cs.size = 2 := f1
            refine ⟨cs[0], cs[1], ?_⟩
            apply Array.ext
            · simpa using f1
            · intro i h1 h2
              match i, h2 with
              | 0, _ => rfl
              | 1, _ => rfl
          have hu : d.R ρ u := f2 1 (Nat.lt_succ_self 1)
          obtain ⟨te, xs, held, hp', hs, D⟩ := destX_run (P := Tryd.prog) hR hu hs
          obtain ⟨dlen, dz, down, drel, dbase, dfree, dnn, dnil⟩ := D
          split at hs
          · rename_i hte _
            subst hte
            obtain ⟨⟨hne, l, hxs⟩, hK⟩ := hs
            have hne : xs ≠ [] := hne
            have hxs : xs = l.map fun b => (b.toNat : Int) := hxs
            subst hxs
            have hl0 : l ≠ [] := fun e => hne (by rw [e]; rfl)
            rw [List.length_map, by_flat] at down
            rw [m2] at h1
            refine (string_any Tryd.lays169 Tryd.Builder_Extra_169 B n p u l w h1 down hl0).mono ?_
            rintro e w' ⟨rfl, hgr⟩
            have hR' := drel.grown hgr dbase (fun j g x q1 q2 q3 => dfree j g x q1 q2 q3) (fun j o q1 q2 => by
              rcases down.2 with ⟨rfl, _⟩ | ⟨g0, cap, cur, rfl, _, hg0, _⟩
              · cases q1
              · have e : g0 = j := by simpa [Value.ownBlock] using q1
                subst e
                rw [hg0] at q2
                cases q2
                rfl)
            refine ⟨ρ, _, _, _, rfl, Ext.refl ρ, hR', ?_, hK⟩
            show _ = _
            rw [show asI (.int .u8) (l.map fun b => (b.toNat : Int)) = l.map fun b => (b.toNat : Int) from rfl, bo_list]
          · exact hs.elim
      · exact hs.elim
    · exact hs.elim
  · exact hs.elim
theorem c_prefix {Φ : World → Prop} (a b : ByteArray) : Ans Tryd.prog Φ 7 [.string a, .string b] (.bool (Lib.hasPrefix a.data.toList b.data.toList)) := fun w _ => by
  refine (Tryd.strings_HasPrefix a b w).mono ?_
  rintro e w' ⟨rfl, rfl⟩
  exact ⟨rfl, Below.refl _ _⟩
end
end Go.Proofs.YtobmbbmompoliaaDoor
