/- Splitting of a string at a separator: the library's contract in the machine's words, and what it is at texts with one separator at most. -/
import Derived.Test.YtobmbbmompoliaaDoorAbs
import Derived.Test.YtobmbbmompoliaaDoorBase
import Derived.Test.YtobmbbmompoliaaDoorShelf
import Derived.Lib.Split
import Derived.Lib.SplitLaws
namespace Go.Proofs.YtobmbbmompoliaaDoor
open Go Go.Abs Go.RowKit
set_option linter.unusedVariables false
set_option linter.unusedSimpArgs false
def splB (s sep : ByteArray) : List ByteArray := Lib.splitB sep 0 (Lib.countB s sep) s
theorem ext_list {a b : ByteArray} (h : a.data.toList = b.data.toList) : a = b := by
  apply ByteArray.ext
  exact Array.toList_inj.mp h
theorem app_list (a b : ByteArray) : (a ++ b).data.toList = a.data.toList ++ b.data.toList := by simp
theorem ex_list (s : ByteArray) (i j : Nat) : (s.extract i j).data.toList = (s.data.toList.take j).drop i := by
  rw [ByteArray.data_extract, Array.toList_extract, List.extract_eq_take_drop, List.drop_take]
theorem ind_at {t : List UInt8} {c : UInt8} (A B : List UInt8) (h : c ∉ A) : Lib.index (A ++ (c :: t) ++ B) (c :: t) = A.length := by
  refine Lib.index_first (by simp) ?_ fun j hj => ?_
  · unfold Lib.occAt
    rw [List.append_assoc, List.drop_left]
    rw [List.isPrefixOf_iff_prefix]
    exact ⟨B, rfl⟩
  · cases q : Lib.occAt (A ++ (c :: t) ++ B) (c :: t) j with
    | false => rfl
    | true =>
      have := Lib.occAt_head rfl q
      rw [List.append_assoc, List.getElem?_append_left hj] at this
      exact absurd (List.mem_of_getElem? this) h
theorem ind_no {t : List UInt8} {c : UInt8} (A : List UInt8) (h : c ∉ A) : Lib.index A (c :: t) = -1 := by
  refine Lib.index_none fun j hj => ?_
  cases q : Lib.occAt A (c :: t) j with
  | false => rfl
  | true => exact absurd (List.mem_of_getElem? (Lib.occAt_head rfl q)) h
theorem spl_one (s : ByteArray) {t : List UInt8} {c : UInt8} (h : c ∉ s.data.toList) : splB s ⟨(c :: t).toArray⟩ = [s] :=
  Lib.splitB_miss _ _ _ _ (ind_no (t := t) _ h)
theorem spl_two (a b : ByteArray) {t : List UInt8} {c : UInt8} (ha : c ∉ a.data.toList) (hb : c ∉ b.data.toList) : splB (a ++ ⟨(c :: t).toArray⟩ ++ b) ⟨(c :: t).toArray⟩ = [a, b] := by
  have hi : Lib.indexB (a ++ ⟨(c :: t).toArray⟩ ++ b) ⟨(c :: t).toArray⟩ = ((a.data.toList.length : Nat) : Int) := by
    unfold Lib.indexB
    rw [app_list, app_list]
    exact ind_at (t := t) _ _ ha
  have e1 : (a ++ ⟨(c :: t).toArray⟩ ++ b).extract (a.data.toList.length + (ByteArray.mk (c :: t).toArray).size) (a ++ ⟨(c :: t).toArray⟩ ++ b).size = b := by
    apply ext_list
    rw [ex_list, Lib.size_eq (a ++ ⟨(c :: t).toArray⟩ ++ b), List.take_length, app_list, app_list, Lib.size_eq]
    rw [← List.length_append]
    exact List.drop_left
  have e2 : (a ++ ⟨(c :: t).toArray⟩ ++ b).extract 0 (a.data.toList.length + 0) = a := by
    apply ext_list
    rw [ex_list, app_list, app_list, List.append_assoc, Nat.add_zero, List.take_left]
    rfl
  unfold splB
  rw [Lib.countB_hit _ _ _ (by rw [Lib.size_eq]; simp) hi, e1, Nat.add_comm 1, Lib.splitB_hit _ _ _ _ _ hi, e1, e2]
  exact congrArg _ (spl_one b hb)
def Vs1 (w : World) : Prop := ∃ m, w.cell? ⟨0, 0, none⟩ = some (.int .i64 m)
theorem r_split {Φ : World → Prop} (hv : ∀ w, Φ w → Vs1 w) (s sep : ByteArray) (hs : s.size < 4294967281) (h1 : 1 ≤ sep.size) :
    RAns Tryd.prog Φ 6 [.one (.v (.string s)), .one (.v (.string sep))] [.one (.r 9 .str (splB s sep))] := by
  rintro w vs cells hw hsh hcd
  obtain ⟨m, hm⟩ := hv w hw
  match vs, cells, hsh, hcd with
  | [v1, v2], _, ⟨_, rfl, _, rfl, rfl⟩, ⟨e1, e2, _⟩ =>
  cases e1
  cases e2
  refine (Tryd.strings_Split s sep m w hs hm h1).mono ?_
  rintro e w' ⟨rfl, rfl⟩
  have hle := Lib.countB_le sep h1 s.size s (Nat.le_refl _)
  have hlen : (splB s sep).length = Lib.countB s sep + 1 := Lib.splitB_all sep h1 0 _ s rfl
  refine ⟨(Below.refl w.heap.size w).alloc (Nat.le_refl _) _, [_], [_], [w.heap.size], rfl, ⟨_, rfl, rfl⟩, .inr ⟨by omega, _, [], rfl, ⟨Nat.le_refl _, Lib.countB s sep + 1, Lib.countB s sep + 1, ((splB s sep).map Value.string).toArray, by rw [hlen], by omega, ?_, ?_, ?_, by omega, ?_⟩, rfl⟩, ?_⟩
  · unfold World.alloc; exact Array.getElem?_push_size
  · show ((splB s sep).map Value.string).toArray.size = (Lib.countB s sep + 1) * 1
    simp [hlen]
  · have : maxLen = 9223372036854775807 := rfl
    omega
  · show ((splB s sep).map Value.string).toArray.toList.take _ = _
    refine (List.take_of_length_le (by show ((splB s sep).map Value.string).length ≤ (splB s sep).length * 1; simp)).trans ?_
    generalize splB s sep = l
    show l.map Value.string = l.flatMap fun x => [Value.string x]
    induction l with
    | nil => rfl
    | cons a l ih => exact congrArg (List.cons _) ih
  · simp
end Go.Proofs.YtobmbbmompoliaaDoor
