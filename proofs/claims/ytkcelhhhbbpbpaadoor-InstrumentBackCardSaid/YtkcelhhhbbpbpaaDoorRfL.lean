/- The lines of a text, and the contract of strings.Lines's iterator. -/
import Derived.Test.YtkcelhhhbbpbpaaDoorRf
import Derived.Test.YtkcelhhhbbpbpaaDoorInP
import Derived.Test.YtkcelhhhbbpbpaaDoorShelf
import Derived.Test.YtkcelhhhbbpbpaaDoorBase
import Derived.RangeFuncNested
import Derived.RangeFuncBound
import Derived.RangeFuncCalls
import Derived.RangeFuncLeaves
import Derived.Shelf.Abstract
import Derived.Shelf.RegionOpen
import Derived.WalkKit
import Derived.OwnWalkIn
import Derived.TacticsInMore
import Derived.LoopNIn
import Derived.LoopIn
import Derived.RegionTactic
import Derived.ChangeAlike
namespace Go.Proofs.YtkcelhhhbbpbpaaDoor
open Go Go.RowKit Go.Shelf Go.Rf
set_option linter.unusedVariables false
set_option linter.unusedSimpArgs false
attribute [local go_sem] Oper.semAt_some
def linesF : Nat → List UInt8 → List ByteArray
  | 0, _ => []
  | f + 1, l => if l = [] then [] else if 10 ∈ l then ⟨(lnH l ++ [10]).toArray⟩ :: linesF f (lnT l) else [⟨l.toArray⟩]
theorem linesF_fuel : ∀ (f g : Nat) (l : List UInt8), l.length ≤ f → l.length ≤ g → linesF f l = linesF g l
  | 0, 0, _, _, _ => rfl
  | 0, g + 1, l, h, _ => by
    have : l = [] := List.eq_nil_of_length_eq_zero (by omega)
    subst this; rfl
  | f + 1, 0, l, _, h => by
    have : l = [] := List.eq_nil_of_length_eq_zero (by omega)
    subst this; rfl
  | f + 1, g + 1, l, h1, h2 => by
    unfold linesF
    split
    · rfl
    · split
      · rename_i c
        have := ln_len c
        rw [linesF_fuel f g (lnT l) (by omega) (by omega)]
      · rfl
def linesL (l : List UInt8) : List ByteArray := linesF l.length l
theorem linesL_nil : linesL [] = [] := rfl
theorem linesL_in {l : List UInt8} (h : 10 ∈ l) : linesL l = ⟨(lnH l ++ [10]).toArray⟩ :: linesL (lnT l) := by
  have h0 : l ≠ [] := by rintro rfl; simp at h
  have hlt := ln_len h
  have e : linesL l = linesF (l.length - 1 + 1) l := linesF_fuel _ _ _ (Nat.le_refl _) (by omega)
  rw [e, linesF, if_neg h0, if_pos h]
  congr 1
  exact linesF_fuel _ _ _ (by omega) (Nat.le_refl _)
theorem linesL_out {l : List UInt8} (h0 : l ≠ []) (h : 10 ∉ l) : linesL l = [⟨l.toArray⟩] := by
  have : l.length ≠ 0 := fun e => h0 (List.eq_nil_of_length_eq_zero e)
  have e : linesL l = linesF (l.length - 1 + 1) l := linesF_fuel _ _ _ (Nat.le_refl _) (by omega)
  rw [e, linesF, if_neg h0, if_neg h]
theorem ib_out : ∀ {l : List UInt8}, 10 ∉ l → Lib.indexByte l 10 = -1
  | [], _ => rfl
  | b :: l, h => by
    have hb : (b == 10) = false := by rw [beq_eq_false_iff_ne]; rintro rfl; simp at h
    unfold Lib.indexByte
    rw [hb, ib_out (fun c => h (by simp [c]))]
    rfl
theorem ib_in : ∀ {l : List UInt8}, 10 ∈ l → Lib.indexByte l 10 = ((lnH l).length : Nat)
  | b :: l, h => by
    unfold Lib.indexByte lnH
    by_cases hb : b = 10
    · subst hb; simp [List.takeWhile_cons]
    · have hb' : (b == 10) = false := by rw [beq_eq_false_iff_ne]; exact hb
      have h' : 10 ∈ l := by
        rcases List.mem_cons.mp h with h | h
        · exact absurd h.symm hb
        · exact h
      have hn : (b != 10) = true := by simpa using hb
      rw [hb', ib_in h', List.takeWhile_cons, if_pos hn]
      have : ¬ ((((lnH l).length : Nat) : Int) == -1) = true := by simp
      rw [if_neg (by decide), if_neg this, List.length_cons]
      unfold lnH
      omega
/-- What a round keeps: the iterator's cell. -/
def KpC (c0 : Nat) (A B : World) : Prop := B.cell? ⟨c0, 0, none⟩ = A.cell? ⟨c0, 0, none⟩ ∧ B.frozen? ⟨c0, 0, none⟩ = A.frozen? ⟨c0, 0, none⟩
def bx (l : List UInt8) : ByteArray := ⟨l.toArray⟩
theorem bx_size (l : List UInt8) : (bx l).size = l.length := by simp [bx, ByteArray.size]
/-- How much is left in the cell. -/
def leftC (c0 : Nat) (W : World) : Nat := match W.cell? ⟨c0, 0, none⟩ with | some (.string s) => s.size | _ => 0
set_option maxHeartbeats 3200000 in
theorem lines_stops (n : Nat) (hn : 2 ≤ n) (c0 : Nat) (l0 : List UInt8) (w : World) (hlen : l0.length ≤ 1000000) (hc : w.cell? ⟨c0, 0, none⟩ = some (.string (bx l0))) (hf : w.frozen? ⟨c0, 0, none⟩ = false) (hlt : c0 < w.heap.size) :
    SeqStopsC Fence.wide n Tryd.prog 33 #[.pointer (some ⟨c0, 0, none⟩)] (fun x : ByteArray => #[.string x]) c0 (KpC c0) (fun xs => xs = linesL l0) (fun pre => pre <+: linesL l0) (linesL l0).length w := by
  intro lp J Jx W hW hJ hJx hJc hJxc hY h0
  refine callsIn_of_wp Tryd.func33 rfl trivial ?_ rfl
  simp only [Tryd.ntmps33, List.size_toArray, List.length_cons, List.length_nil, Nat.reduceAdd, Nat.reduceSub, Array.replicate_succ, Array.replicate_zero, List.push_toArray, List.append_toArray, List.nil_append, List.cons_append]
  gi_wp2
  gi_loopw [3] (fun p wr => ∃ (pre : List ByteArray) (l : List UInt8), l.length ≤ 1000000 ∧ linesL l0 = pre ++ linesL l ∧ wr.cell? ⟨c0, 0, none⟩ = some (.string (bx l)) ∧ wr.frozen? ⟨c0, 0, none⟩ = false ∧ J pre wr)
    (fun p wr => leftC c0 wr)
  case atStart =>
    exact ⟨[], l0, hlen, rfl, (hW.cell (p := ⟨c0, 0, none⟩) hlt).trans hc, (hW.frozen (p := ⟨c0, 0, none⟩) hlt).trans hf, h0⟩
  case round =>
    obtain ⟨pre, l, hl, hx, hc1, hf1, hJs⟩ := hrel
    have bs := bx_size l
    by_cases h00 : l = []
    · subst h00
      have b0 : (bx []).size = 0 := rfl
      gi_wp2
      go_end0
      exact ⟨⟨_, rfl⟩, .inl ⟨pre, by rw [hx, linesL_nil, List.append_nil], hJs⟩⟩
    · have hp : 0 < l.length := by
        have : l.length ≠ 0 := fun e => h00 (List.eq_nil_of_length_eq_zero e)
        omega
      have hb : ((bx l).size : Int) > 0 := by omega
      have HI := fun W => Tryd.strings_IndexByte (bx l) 10 W
      have ei : (bx l).data.toList = l := rfl
      have ec : (10 : Int).toNat.toUInt8 = 10 := rfl
      rw [ei, ec] at HI
      by_cases h10 : 10 ∈ l
      · rw [ib_in h10] at HI
        have HI' := Lib.hid HI
        clear HI
        obtain ⟨d1, d2⟩ : l.drop ((lnH l).length + 1) = lnT l ∧ (lnH l).length + 1 + (lnT l).length = l.length := by
          have e : l = lnH l ++ 10 :: lnT l := (split_at h10).1
          generalize lnH l = T at *
          generalize lnT l = D at *
          subst e
          refine ⟨?_, by simp; omega⟩
          rw [show T ++ 10 :: D = (T ++ [10]) ++ D by simp, show T.length + 1 = (T ++ [10]).length by simp, List.drop_left]
        gi_wp2_with fail
        refine ⟨trivial, fun _ => by omega, (callsIn_wide.2 (HI'.out _)).mono ?_⟩
        rintro e w' ⟨rfl, rfl⟩
        gi_wp2
        refine wpIn_wide.2 ?_
        go_region
        have x1 : (bx l).extract 0 ((lnH l).length + 1) = bx (lnH l ++ [10]) := by
          apply ByteArray.ext
          apply Array.toList_inj.mp
          rw [ByteArray.data_extract, Array.toList_extract, List.extract_eq_take_drop]
          show (l.drop 0).take ((lnH l).length + 1 - 0) = lnH l ++ [10]
          have e : l = lnH l ++ 10 :: lnT l := (split_at h10).1
          generalize lnH l = T at *
          generalize lnT l = D at *
          subst e
          rw [List.drop_zero, Nat.sub_zero, show T ++ 10 :: D = (T ++ [10]) ++ D by simp, show T.length + 1 = (T ++ [10]).length by simp, List.take_left]
        have x2 : (bx l).extract ((lnH l).length + 1) l.length = bx (lnT l) := by
          apply ByteArray.ext
          apply Array.toList_inj.mp
          rw [ByteArray.data_extract, Array.toList_extract, List.extract_eq_take_drop]
          show (l.drop ((lnH l).length + 1)).take _ = lnT l
          rw [d1, List.take_of_length_le (by omega)]
        rw [x1, x2]
        have hJ1 : J pre (w'.setCell ⟨c0, 0, none⟩ (.string (bx (lnT l)))).drew := hJ _ _ _ none (hJc _ _ (bx (lnT l)) hJs) ⟨rfl, rfl, rfl, Nat.le_refl _, fun _ _ _ => rfl⟩ (fun r e => by cases e)
        have hc2 : (w'.setCell ⟨c0, 0, none⟩ (.string (bx (lnT l)))).drew.cell? ⟨c0, 0, none⟩ = some (.string (bx (lnT l))) := by
          rw [World.cell?_drew]
          exact World.cell?_setCell_same' _ _ _ (by rw [hc1]; rfl)
        have hf2 : (w'.setCell ⟨c0, 0, none⟩ (.string (bx (lnT l)))).drew.frozen? ⟨c0, 0, none⟩ = false := by
          rw [World.frozen?_drew, World.frozen?_setCell]; exact hf1
        generalize (w'.setCell ⟨c0, 0, none⟩ (.string (bx (lnT l)))).drew = W1 at *
        have hlen1 : pre.length < (linesL l0).length := by rw [hx, linesL_in h10, List.length_append, List.length_cons]; omega
        obtain ⟨fn, tmps, assign, body, hy, hR⟩ := hY pre (bx (lnH l ++ [10])) W1 hJ1 hlen1 ⟨linesL (lnT l), by rw [hx, linesL_in h10]; simp [bx]⟩
        gi_wp2
        refine ⟨fun _ => by omega, hR.mono ?_⟩
        rintro e W3 (⟨rfl, hJ3, hk3⟩ | ⟨rfl, hJx3⟩)
        · have hc3 := hk3.1.trans hc2
          have hf3 := hk3.2.trans hf2
          gi_wp2
          go_roundw
          case rel => exact ⟨pre ++ [bx (lnH l ++ [10])], lnT l, by omega, by rw [hx, linesL_in h10]; simp [bx], hc3, hf3, hJ3⟩
          case measure =>
            unfold leftC
            rw [hc3, hc1]
            show (bx (lnT l)).size < (bx l).size
            rw [bx_size, bx_size]
            omega
        · gi_wp2
          refine bodyPost_ret (results_none rfl _ _ _) rfl ?_
          exact ⟨⟨_, rfl⟩, .inr ⟨pre ++ [bx (lnH l ++ [10])], ⟨linesL (lnT l), by rw [hx, linesL_in h10]; simp [bx]⟩, hJx3⟩⟩
      · rw [ib_out h10] at HI
        have HI' := Lib.hid HI
        clear HI
        gi_wp2_with fail
        refine ⟨trivial, fun _ => by omega, (callsIn_wide.2 (HI'.out _)).mono ?_⟩
        rintro e w' ⟨rfl, rfl⟩
        have hJ1 : J pre (w'.setCell ⟨c0, 0, none⟩ (.string ⟨#[]⟩)) := hJc _ _ _ hJs
        have hc2 : (w'.setCell ⟨c0, 0, none⟩ (.string ⟨#[]⟩)).cell? ⟨c0, 0, none⟩ = some (.string ⟨#[]⟩) := World.cell?_setCell_same' _ _ _ (by rw [hc1]; rfl)
        have hf2 : (w'.setCell ⟨c0, 0, none⟩ (.string ⟨#[]⟩)).frozen? ⟨c0, 0, none⟩ = false := by
          rw [World.frozen?_setCell]; exact hf1
        have hlen1 : pre.length < (linesL l0).length := by rw [hx, linesL_out h00 h10, List.length_append]; simp
        obtain ⟨fn, tmps, assign, body, hy, hR⟩ := hY pre (bx l) (w'.setCell ⟨c0, 0, none⟩ (.string ⟨#[]⟩)) hJ1 hlen1 ⟨[], by rw [hx, linesL_out h00 h10]; simp [bx]⟩
        gi_wp2
        refine ⟨fun _ => by omega, hR.mono ?_⟩
        rintro e W3 (⟨rfl, hJ3, hk3⟩ | ⟨rfl, hJx3⟩)
        · have hc3 := hk3.1.trans hc2
          have hf3 := hk3.2.trans hf2
          gi_wp2
          go_roundw
          case rel => exact ⟨pre ++ [bx l], [], by simp, by rw [hx, linesL_out h00 h10, linesL_nil]; simp [bx], hc3, hf3, hJ3⟩
          case measure =>
            unfold leftC
            rw [hc3, hc1]
            show (ByteArray.mk #[]).size < (bx l).size
            rw [bx_size]
            exact hp
        · gi_wp2
          refine bodyPost_ret (results_none rfl _ _ _) rfl ?_
          exact ⟨⟨_, rfl⟩, .inr ⟨pre ++ [bx l], ⟨[], by rw [hx, linesL_out h00 h10]; simp [bx]⟩, hJx3⟩⟩
end Go.Proofs.YtkcelhhhbbpbpaaDoor
