/- Contracts of the error of the arc, of instrument.Correction and of instrument.Apply. -/
import Derived.Test.YtdjlickmjfpokaaWalkB
namespace Go.Proofs.Ytdjlickmjfpokaa
open Go.RowKit

theorem bsf_arcF_nil (A : Option Addr) (c : Nat) (hs : Int) (w : World) :
    Calls Try.prog 23 #[.slice A 0 c, .int .i64 hs, .func (.func 38) #[] #[]] w fun e w' => e = .returned (.tuple #[.int .i64 0, .bool false]) ∧ w = w' := by
  go_enter Try.func23, Try.ntmps23
  go_wp2
  go_loopw [9, 10] (fun i j wr => i = .int .i64 0 ∧ j = .int .i64 0 ∧ wr = w) (fun i j _ => 0)
  case atStart => exact ⟨rfl, rfl, rfl⟩
  case round =>
    obtain ⟨rfl, rfl, rfl⟩ := hrel
    go_wp2
    go_ret2
    exact ⟨rfl, rfl⟩
set_option maxHeartbeats 1000000 in
theorem inArc_nil (A : Option Addr) (c : Nat) (hs : Int) (w : World) :
    Calls Try.prog 32 #[.slice A 0 c, .int .i64 hs] w fun e w' => e = .returned (.agg #[.int .i64 0, .int .i64 0]) ∧ Below w.heap.size w w' := by
  go_enter Try.func32, Try.ntmps32
  go_wp2_with (go_at_call 23; refine (bsf_arcF_nil _ _ _ _).mono ?_; rintro e w1 ⟨rfl, rfl⟩)
  exact bodyPost_ret (v := .agg #[.int .i64 0, .int .i64 0]) (by simp [results, Try.results32, go_sem]) rfl ⟨rfl, (Below.refl _ _).alloc (Nat.le_refl _) _⟩
theorem box2z {w wr : World} {u v : Value} {t : TypeId} (h : Below (w.heap.size + 1) (w.alloc (.cells #[u, v] t)) wr) :
    wr.frozen? ⟨w.heap.size, 0, none⟩ = false ∧ wr.frozen? ⟨w.heap.size, 1, none⟩ = false := by
  have h0 := h.frozen (p := ⟨w.heap.size, 0, none⟩) (by simp)
  have h1 := h.frozen (p := ⟨w.heap.size, 1, none⟩) (by simp)
  exact ⟨h0.trans (by go_simp), h1.trans (by go_simp)⟩
set_option maxHeartbeats 1000000 in
theorem inArc_some (b off c : Nat) (l : List (Int × Int)) (hs : Int) (w : World) (idx : Int) (hv : Valid18 idx l) (hs1 : -60000 ≤ hs ∧ hs ≤ 7800000) (hE : Ents w b off l) (hl : 0 < l.length) :
    Calls Try.prog 32 #[.slice (some ⟨b, off, none⟩) l.length c, .int .i64 hs] w fun e w' =>
      ∃ p, Found l hs p ∧ e = .returned (.agg #[.int .i64 (arcLo l hs p), .int .i64 (arcHi l hs p)]) ∧ Below w.heap.size w w' := by
  have hA := asc_of hv
  obtain ⟨hi1, hi2, hl40, hok⟩ := hv
  have hr : Hid (∀ k, k < l.length → 0 ≤ atAt l k ∧ atAt l k ≤ 100000000) := fun k hk => by have := (hok k hk).1; have := (hok k hk).2.1; omega
  have hok := Lib.hid hok
  obtain ⟨hs1, hs2⟩ := hs1
  have hne : ((l.length : Int) == 0) = false := beq_eq_false_iff_ne.2 (by omega)
  go_enter Try.func32, Try.ntmps32
  go_wp2_with fail
  refine (bsf_arcF _ _ _ _ _ _ (by omega) ⟨by omega, by omega⟩ hr hA (hE.below ((Below.refl w.heap.size w).alloc (Nat.le_refl _) _) hE.1)).mono ?_
  rintro e w1 ⟨p, hF, rfl, hb0⟩
  have hb : Below (w.heap.size + 1) _ w1 := hb0.mono (by simp)
  clear hb0
  have hE1 := (hE.below ((Below.refl w.heap.size w).alloc (Nat.le_refl _) _) hE.1).below hb (by have := hE.1; omega)
  have hsz : w.heap.size < w1.heap.size := by have := hb.size; simp at this; omega
  obtain ⟨hq0, hq1⟩ := box2 (w := w) hb
  obtain ⟨hz0, hz1⟩ := box2z (w := w) hb
  have hle := hF.1
  have hend : Below w.heap.size w w1 := ((Below.refl _ _).alloc (Nat.le_refl _) _).trans (hb.mono (by omega))
  by_cases h0 : there l hs p = true ∨ p = 0
  · obtain ⟨v1, v2⟩ := arc_at hl h0
    have V1 := Lib.hid v1
    have V2 := Lib.hid v2
    clear v1 v2
    have hp : p < l.length := by
      rcases h0 with ht | ht
      · unfold there at ht; simp at ht; exact ht.1
      · omega
    obtain ⟨hc0, hc1⟩ := hE1.2 p hp
    by_cases ht : there l hs p = true
    · clear h0
      go_wp2_with fail
      go_region
      go_wp2
      refine bodyPost_ret (v := .agg #[.int .i64 (valAt l p), .int .i64 (valAt l p)]) (by simp [results, Try.results32, go_sem, hq0, hq1]) rfl ⟨p, hF, by rw [V1.out, V2.out], ?_⟩
      exact ((hend.setCell (Nat.le_refl _) _).setCell (Nat.le_refl _) _).drew
    · have ht : there l hs p = false := by simpa using ht
      have hp0 : ((p : Int) == 0) = true := beq_iff_eq.2 (by rcases h0 with h | h <;> simp_all)
      clear h0
      go_wp2_with fail
      go_region
      go_wp2
      refine bodyPost_ret (v := .agg #[.int .i64 (valAt l p), .int .i64 (valAt l p)]) (by simp [results, Try.results32, go_sem, hq0, hq1]) rfl ⟨p, hF, by rw [V1.out, V2.out], ?_⟩
      exact ((hend.setCell (Nat.le_refl _) _).setCell (Nat.le_refl _) _).drew
  · have ht : there l hs p = false := Bool.eq_false_iff.2 (fun h => h0 (Or.inl h))
    have hp0 : 0 < p := Nat.pos_of_ne_zero (fun h => h0 (Or.inr h))
    have hp0' : ((p : Int) == 0) = false := beq_eq_false_iff_ne.2 (by omega)
    clear h0
    have G1 : (0 : Int) ≤ (p : Int) - 1 := by omega
    have G3 : (1 : Int) ≤ p := by omega
    have G4 : (p : Int) - 1 < l.length := by omega
    have E1 : Hid (IntKind.i64.wrap ((p : Int) - 1) = (p : Int) - 1) := IntWalk.i64_in _ (by omega)
    have E2 : Hid (((p : Int) - 1).toNat = p - 1) := by show _ = _; omega
    obtain ⟨hd0, hd1⟩ := hE1.2 (p - 1) (by omega)
    by_cases hpl : p = l.length
    · have hpl' : ((p : Int) == l.length) = true := beq_iff_eq.2 (by omega)
      have V : Hid (arcLo l hs p = valAt l (p - 1) ∧ arcHi l hs p = valAt l (p - 1)) := by subst hpl; exact arc_end hl ht
      clear hpl
      go_wp2_with fail
      have e1 := E1.out
      have e2 := E2.out
      go_region
      clear e1 e2
      go_wp2
      refine bodyPost_ret (v := .agg #[.int .i64 (valAt l (p - 1)), .int .i64 (valAt l (p - 1))]) (by simp [results, Try.results32, go_sem, hq0, hq1]) rfl ⟨p, hF, by rw [V.out.1, V.out.2], ?_⟩
      exact ((hend.setCell (Nat.le_refl _) _).setCell (Nat.le_refl _) _).drew
    · have hpl' : ((p : Int) == l.length) = false := beq_eq_false_iff_ne.2 (by omega)
      have hp : p < l.length := by omega
      have G5 : (p : Int) < l.length := by omega
      obtain ⟨hc0, hc1⟩ := hE1.2 p hp
      have V := Lib.hid (arc_mid hp0 hp ht)
      obtain ⟨ha1, ha2, hv1, hv2, hd⟩ := hok.out p hp
      obtain ⟨hd, hd'⟩ := hd hp0
      obtain ⟨hb1, hb2, hw1, hw2, _⟩ := hok.out (p - 1) (by omega)
      have M1 := mul_bd (x := valAt l (p - 1)) (y := atAt l p - atAt l (p - 1)) (X := 10000) (Y := 7800000) (by omega) (by omega)
      have M2 := mul_bd (x := valAt l p - valAt l (p - 1)) (y := hs - atAt l (p - 1)) (X := 20000) (Y := 7900000) (by omega) (by omega)
      have M3 := ediv_bd (a := -(valAt l (p - 1) * (atAt l p - atAt l (p - 1)) + (valAt l p - valAt l (p - 1)) * (hs - atAt l (p - 1)))) (b := atAt l p - atAt l (p - 1)) (lo := -1000000000000) (hi := 1000000000000) (by omega) (by omega) (by omega) (by omega) (by omega)
      have hbs : b < w1.heap.size := hE1.1
      clear hd'
      go_wp2_with fail
      have e1 := E1.out
      have e2 := E2.out
      go_region
      all_goals
        clear e1 e2
        go_wp2_with fail
        refine (floor_any _ _ _ (by omega) (by omega)).mono ?_
        rintro e w2 ⟨rfl, rfl⟩
        go_wp2_with fail
        refine (floor_any _ _ _ (by omega) (by omega)).mono ?_
        rintro e w2 ⟨rfl, rfl⟩
        go_wp2_with fail
        refine bodyPost_ret (v := .agg #[.int .i64 (arcNum l hs p / (atAt l p - atAt l (p - 1))), .int .i64 (-(-arcNum l hs p / (atAt l p - atAt l (p - 1))))]) (by simp [results, Try.results32, go_sem, hq0, hq1, hsz, arcNum]) rfl ⟨p, hF, by rw [V.out.1, V.out.2], ?_⟩
        repeat (first | exact hend | refine Below.setCell ?_ (by simp) _ | refine Below.drew ?_ | refine Below.alloc ?_ (by simp; omega) _)
end Go.Proofs.Ytdjlickmjfpokaa
