/- Small lemmas for all of the seat's proofs: endings, quotients, worlds. No program is in sight here. Several texts in one: KepC, SpecW, TrgS, TrgV, VcD, Digit, VcW, Arith, CtW. -/
import Derived.Below
import Derived.Lib.Hide
import Derived.Deep.Draws
import Derived.Deep.QuietTactic
import Derived.Test.YtjdcicjhpegphaaGreatRows
import Derived.Test.YtjdcicjhpegphaaGreatAbs
import Derived.WalkKit
import Derived.WalkLawsBesides
import Derived.WalkSpells
import Derived.BigQuiet
import Derived.Outline
import Derived.Handy
import Derived.WalkSmall
import Derived.Laws.Rows
import Derived.KernelRfl
import Derived.Test.YtjdcicjhpegphaaGreatProg
import Derived.Lib.BitFns
set_option linter.unusedSimpArgs false
set_option linter.unusedVariables false
namespace Go.Proofs.YtjdcicjhpegphaaGreat
open Go Go.RowKit
def I64 (n : Int) : Prop := -9223372036854775808 ≤ n ∧ n ≤ 9223372036854775807
theorem I64.lo {n : Int} (h : I64 n) : -9223372036854775808 ≤ n := h.1
theorem I64.hi {n : Int} (h : I64 n) : n ≤ 9223372036854775807 := h.2
/-! Quiet calls whose contracts say 'w = w''. -/
end Go.Proofs.YtjdcicjhpegphaaGreat
/- The functions that keep the first error, where there is none. -/
namespace Go.Proofs.YtjdcicjhpegphaaGreat
open Go Go.Abs Go.RowKit
theorem set_same {w : World} {b : Nat} {T : TypeId} {x : Value} (hb : w.heap[b]? = some (.cells #[x] T (0, 0))) : w.setCell ⟨b, 0, none⟩ x = w := by
  unfold World.setCell
  have hlt : b < w.heap.size := (Array.getElem?_eq_some_iff.1 hb).1
  have he : w.heap[b] = .cells #[x] T (0, 0) := (Array.getElem?_eq_some_iff.1 hb).2
  have : w.heap.modify b (fun | .cells c elem frozen => Obj.cells (if (none : Option Nat).isSome then c else c.setIfInBounds 0 x) elem frozen | o => o) = w.heap := by
    apply Array.ext
    · simp
    · intro i h1 h2
      rw [Array.getElem_modify]
      split
      · rename_i e
        subst e
        rw [he]
        simp
      · rfl
  cases w
  simp only [World.mk.injEq, and_true, true_and] at *
  exact this
theorem keep_run (w : World) (b : Nat) (T : TypeId) (lo hi : Int) (hb : w.heap[b]? = some (.cells #[.int .i64 0] T (0, 0))) :
    Calls Tryz.prog 137 #[.pointer (some ⟨b, 0, none⟩), .agg #[.int .i64 lo, .int .i64 hi], .int .i64 0] w fun e w' => e = .returned (.agg #[.int .i64 lo, .int .i64 hi]) ∧ Below w.heap.size w w' := by
  have hlt : b < w.heap.size := (Array.getElem?_eq_some_iff.1 hb).1
  have hc : ∀ o1 o2, ((w.alloc o1).alloc o2).cell? ⟨b, 0, none⟩ = some (.int .i64 0) := fun o1 o2 => by
    have h1 : ((w.alloc o1).alloc o2).heap[b]? = some (.cells #[.int .i64 0] T (0, 0)) := by
      simp only [World.alloc]
      rw [Array.getElem?_push_lt (by simp; omega), Array.getElem_push_lt (by omega), ← hb]
      simp [hlt]
    unfold World.cell?
    simp [h1]
  have hf : w.frozen? ⟨b, 0, none⟩ = false := by
    unfold World.frozen?
    simp [hb]
  have hs := set_same hb
  clear hb
  go_enter Tryz.func137, Tryz.ntmps137
  go_wp2
  have hsome : (Tryz.prog.underlying 89).isSome = true := by kernel_rfl
  refine bodyPost_ret (results_cell_row (p := 6) (ty := 89) (by kernel_rfl) _ _ (w.heap.size + 1) 89 #[.int .i64 lo, .int .i64 hi] (0, 0) ((Tryz.prog.underlying 89).get hsome) rfl (heap_alloc2_new _ _ _) (by simp) (by kernel_rfl) (by kernel_rfl)) rfl ⟨rfl, ?_⟩
  exact ((Below.refl _ w).alloc (Nat.le_refl _) _).alloc (by simp) _
theorem kept_run (w : World) (b : Nat) (T : TypeId) (lo hi : Int) (hb : w.heap[b]? = some (.cells #[.int .i64 0] T (0, 0))) :
    Calls Tryz.prog 69 #[.pointer (some ⟨b, 0, none⟩), .agg #[.int .i64 lo, .int .i64 hi], .int .i64 0] w fun e w' => e = .returned (.agg #[.int .i64 lo, .int .i64 hi]) ∧ Below w.heap.size w w' := by
  have hlt : b < w.heap.size := (Array.getElem?_eq_some_iff.1 hb).1
  have hc : ∀ o1 o2, ((w.alloc o1).alloc o2).cell? ⟨b, 0, none⟩ = some (.int .i64 0) := fun o1 o2 => by
    have h1 : ((w.alloc o1).alloc o2).heap[b]? = some (.cells #[.int .i64 0] T (0, 0)) := by
      simp only [World.alloc]
      rw [Array.getElem?_push_lt (by simp; omega), Array.getElem_push_lt (by omega), ← hb]
      simp [hlt]
    unfold World.cell?
    simp [h1]
  have hf : w.frozen? ⟨b, 0, none⟩ = false := by
    unfold World.frozen?
    simp [hb]
  have hs := set_same hb
  clear hb
  go_enter Tryz.func69, Tryz.ntmps69
  go_wp2
  have hsome : (Tryz.prog.underlying 23).isSome = true := by kernel_rfl
  refine bodyPost_ret (results_cell_row (p := 6) (ty := 23) (by kernel_rfl) _ _ (w.heap.size + 1) 23 #[.int .i64 lo, .int .i64 hi] (0, 0) ((Tryz.prog.underlying 23).get hsome) rfl (heap_alloc2_new _ _ _) (by simp) (by kernel_rfl) (by kernel_rfl)) rfl ⟨rfl, ?_⟩
  exact ((Below.refl _ w).alloc (Nat.le_refl _) _).alloc (by simp) _
theorem numb_run (w : World) (b : Nat) (T : TypeId) (lo hi : Int) (hb : w.heap[b]? = some (.cells #[.int .i64 0] T (0, 0))) :
    Calls Tryz.prog 78 #[.pointer (some ⟨b, 0, none⟩), .agg #[.int .i64 lo, .int .i64 hi], .int .i64 0] w fun e w' => e = .returned (.agg #[.int .i64 lo, .int .i64 hi]) ∧ Below w.heap.size w w' := by
  have hlt : b < w.heap.size := (Array.getElem?_eq_some_iff.1 hb).1
  have hc : ∀ o1 o2, ((w.alloc o1).alloc o2).cell? ⟨b, 0, none⟩ = some (.int .i64 0) := fun o1 o2 => by
    have h1 : ((w.alloc o1).alloc o2).heap[b]? = some (.cells #[.int .i64 0] T (0, 0)) := by
      simp only [World.alloc]
      rw [Array.getElem?_push_lt (by simp; omega), Array.getElem_push_lt (by omega), ← hb]
      simp [hlt]
    unfold World.cell?
    simp [h1]
  have hf : w.frozen? ⟨b, 0, none⟩ = false := by
    unfold World.frozen?
    simp [hb]
  have hs := set_same hb
  clear hb
  go_enter Tryz.func78, Tryz.ntmps78
  go_wp2
  have hsome : (Tryz.prog.underlying 89).isSome = true := by kernel_rfl
  refine bodyPost_ret (results_cell_row (p := 6) (ty := 89) (by kernel_rfl) _ _ (w.heap.size + 1) 89 #[.int .i64 lo, .int .i64 hi] (0, 0) ((Tryz.prog.underlying 89).get hsome) rfl (heap_alloc2_new _ _ _) (by simp) (by kernel_rfl) (by kernel_rfl)) rfl ⟨rfl, ?_⟩
  exact ((Below.refl _ w).alloc (Nat.le_refl _) _).alloc (by simp) _
theorem arcg_run (w : World) (b : Nat) (T : TypeId) (lo hi : Int) (hb : w.heap[b]? = some (.cells #[.int .i64 0] T (0, 0))) :
    Calls Tryz.prog 76 #[.pointer (some ⟨b, 0, none⟩), .agg #[.int .i64 lo, .int .i64 hi], .int .i64 0] w fun e w' => e = .returned (.agg #[.int .i64 lo, .int .i64 hi]) ∧ Below w.heap.size w w' := by
  have hlt : b < w.heap.size := (Array.getElem?_eq_some_iff.1 hb).1
  have hc : ∀ o1 o2, ((w.alloc o1).alloc o2).cell? ⟨b, 0, none⟩ = some (.int .i64 0) := fun o1 o2 => by
    have h1 : ((w.alloc o1).alloc o2).heap[b]? = some (.cells #[.int .i64 0] T (0, 0)) := by
      simp only [World.alloc]
      rw [Array.getElem?_push_lt (by simp; omega), Array.getElem_push_lt (by omega), ← hb]
      simp [hlt]
    unfold World.cell?
    simp [h1]
  have hf : w.frozen? ⟨b, 0, none⟩ = false := by
    unfold World.frozen?
    simp [hb]
  have hs := set_same hb
  clear hb
  go_enter Tryz.func76, Tryz.ntmps76
  go_wp2
  have hsome : (Tryz.prog.underlying 23).isSome = true := by kernel_rfl
  refine bodyPost_ret (results_cell_row (p := 6) (ty := 23) (by kernel_rfl) _ _ (w.heap.size + 1) 23 #[.int .i64 lo, .int .i64 hi] (0, 0) ((Tryz.prog.underlying 23).get hsome) rfl (heap_alloc2_new _ _ _) (by simp) (by kernel_rfl) (by kernel_rfl)) rfl ⟨rfl, ?_⟩
  exact ((Below.refl _ w).alloc (Nat.le_refl _) _).alloc (by simp) _
def Zc (Φ : World → Prop) (b : Nat) (T : TypeId) (w : World) : Prop := Φ w ∧ w.heap[b]? = some (.cells #[.int .i64 0] T (0, 0))
theorem zc_below {Φ : World → Prop} (hst : ∀ w w', Φ w → Below w.heap.size w w' → Φ w') (b : Nat) (T : TypeId) : ∀ w w', Zc Φ b T w → Below w.heap.size w w' → Zc Φ b T w' := fun w w' h k =>
  ⟨hst w w' h.1 k, (k.block b (Array.getElem?_eq_some_iff.1 h.2).1).trans h.2⟩
theorem zc_pans {P : Program} {Φ : World → Prop} {f : FuncId} {args : List Value} {v : Value} (h : ∀ b T, Ans P (Zc Φ b T) f (Value.pointer (some ⟨b, 0, none⟩) :: args) v) : PAns P Φ f args [.int .i64 0] v := pans_of fun b T => h b T
abbrev ptr (b : Nat) : Value := .pointer (some ⟨b, 0, none⟩)
variable {Φ : World → Prop} {b : Nat} {T : TypeId}
theorem c_keep (lo hi : Int) : Ans Tryz.prog (Zc Φ b T) 137 [ptr b, .agg ⟨[.int .i64 lo, .int .i64 hi]⟩, .int .i64 0] (.agg ⟨[.int .i64 lo, .int .i64 hi]⟩) := fun w h => keep_run w b T lo hi h.2
theorem c_kept (lo hi : Int) : Ans Tryz.prog (Zc Φ b T) 69 [ptr b, .agg ⟨[.int .i64 lo, .int .i64 hi]⟩, .int .i64 0] (.agg ⟨[.int .i64 lo, .int .i64 hi]⟩) := fun w h => kept_run w b T lo hi h.2
theorem c_numb (lo hi : Int) : Ans Tryz.prog (Zc Φ b T) 78 [ptr b, .agg ⟨[.int .i64 lo, .int .i64 hi]⟩, .int .i64 0] (.agg ⟨[.int .i64 lo, .int .i64 hi]⟩) := fun w h => numb_run w b T lo hi h.2
theorem c_arcg (lo hi : Int) : Ans Tryz.prog (Zc Φ b T) 76 [ptr b, .agg ⟨[.int .i64 lo, .int .i64 hi]⟩, .int .i64 0] (.agg ⟨[.int .i64 lo, .int .i64 hi]⟩) := fun w h => arcg_run w b T lo hi h.2
end Go.Proofs.YtjdcicjhpegphaaGreat
/- What the functions of wide answer. -/
namespace Go.Proofs.YtjdcicjhpegphaaGreat
open Go Go.Abs Go.RowKit
instance (n : Int) : Decidable (I64 n) := by unfold I64; infer_instance
abbrev wid (a b : Int) : Value := .agg ⟨[.int .i64 a, .int .i64 b]⟩
abbrev pair (a b : Value) : Value := .tuple ⟨[a, b]⟩
abbrev num (n : Int) : Value := .int .i64 n
def gate (c : Prop) [Decidable c] (x : Int) : Int := if c then x else 0
def pick (c : Prop) [Decidable c] (x y : Int) : Int := if c then x else y
def WV (h l : Int) : Prop := -1152921504606846976 ≤ h ∧ h < 1152921504606846976 ∧ 0 ≤ l ∧ l < 1152921504606846976
instance (h l : Int) : Decidable (WV h l) := by unfold WV; infer_instance
def F120 (v : Int) : Prop := -1329227995784915872903807060280344576 ≤ v ∧ v < 1329227995784915872903807060280344576
instance (v : Int) : Decidable (F120 v) := by unfold F120; infer_instance
def val (h l : Int) : Int := h * 1152921504606846976 + l
def Small (n : Int) : Prop := -4611686018427387904 ≤ n ∧ n ≤ 4611686018427387904
def U64 (n : Int) : Prop := 0 ≤ n ∧ n < 18446744073709551616
def hiO (v : Int) : Int := v / 1152921504606846976
def loO (v : Int) : Int := v % 1152921504606846976
abbrev wAns (v : Int) : Value := pair (wid (gate (F120 v) (hiO v)) (gate (F120 v) (loO v))) (num (pick (F120 v) 0 5))
def sWValid : FSpec := fun | [.agg ⟨[.int .i64 a, .int .i64 b]⟩] => some (True, .bool (decide (WV a b))) | _ => none
def sWFit : FSpec := fun | [.int .i64 a, .int .i64 b] => some (Small a ∧ Small b, wAns (val a b)) | _ => none
def two (a b c d : Int) : Prop := WV a b ∧ WV c d
def ok2 (a b c d v : Int) : Prop := WV a b ∧ WV c d ∧ F120 v
def absI (n : Int) : Int := if n < 0 then -n else n
def sWAbs : FSpec := fun | [.int .i64 n] => some (I64 n, .int .u64 (absI n)) | _ => none
abbrev siz (h l : Int) (n : Bool) : Value := .agg ⟨[.int .u64 h, .int .u64 l, .bool n]⟩
def sWSizeOf : FSpec := fun | [.agg ⟨[.int .i64 a, .int .i64 b]⟩] => some (WV a b, siz (absI (val a b) / 18446744073709551616) (absI (val a b) % 18446744073709551616) (decide (val a b < 0))) | _ => none
def sval (h l : Int) (n : Bool) : Int := if n then -(h * 18446744073709551616 + l) else h * 18446744073709551616 + l
def sWWide : FSpec := fun | [.agg ⟨[.int .u64 h, .int .u64 l, .bool n]⟩] => some (U64 h ∧ U64 l, wAns (sval h l n)) | _ => none
def sMul64 : FSpec := fun | [.int .u64 x, .int .u64 y] => some (U64 x ∧ U64 y, pair (.int .u64 (x * y / 18446744073709551616)) (.int .u64 (x * y % 18446744073709551616))) | _ => none
def sDiv64 : FSpec := fun | [.int .u64 h, .int .u64 l, .int .u64 d] => some (U64 h ∧ U64 l ∧ U64 d ∧ h < d, pair (.int .u64 ((h * 18446744073709551616 + l) / d)) (.int .u64 ((h * 18446744073709551616 + l) % d))) | _ => none
def sWProduct : FSpec := fun | [.int .i64 a, .int .i64 b] => some (I64 a ∧ I64 b, wAns (a * b)) | _ => none
def quoI (v b : Int) (up : Bool) : Int := if up then -((-v).fdiv b) else v.fdiv b
def okQ (h l b : Int) (up : Bool) : Prop := WV h l ∧ b ≠ 0 ∧ I64 (quoI (val h l) b up)
instance (h l b : Int) (up : Bool) : Decidable (okQ h l b up) := by unfold okQ; infer_instance
abbrev qAns (h l b : Int) (up : Bool) : Value := pair (num (gate (okQ h l b up) (quoI (val h l) b up))) (num (pick (WV h l) (pick (b = 0) 16 (pick (I64 (quoI (val h l) b up)) 0 5)) 1))
def sWQuotient : FSpec := fun | [.agg ⟨[.int .i64 h, .int .i64 l]⟩, .int .i64 b, .bool up] => some (I64 b, qAns h l b up) | _ => none
def sWFloor : FSpec := fun | [.agg ⟨[.int .i64 h, .int .i64 l]⟩, .int .i64 b] => some (I64 b, qAns h l b false) | _ => none
def sWCeil : FSpec := fun | [.agg ⟨[.int .i64 h, .int .i64 l]⟩, .int .i64 b] => some (I64 b, qAns h l b true) | _ => none
def lzI (y : Int) : Int := 64 - (Lib.bitLen y.toNat : Int)
def sLz64 : FSpec := fun | [.int .u64 y] => some (U64 y, .int .i64 (lzI y)) | _ => none
def ΓD : List (FuncId × CSpec) := [(188, .v sLz64)]
structure Dig (yn1 yn0 un u1 q r : Int) : Prop where
  sum : q * yn1 + r = un
  r0 : 0 ≤ r
  r1 : r < 4294967296
  q0 : 0 ≤ q
  q1 : q ≤ 4294967297
  least : un * 4294967296 + u1 < (q + 1) * (yn1 * 4294967296 + yn0)
def digI (yn1 yn0 un u1 : Int) : Int := (un * 4294967296 + u1) / (yn1 * 4294967296 + yn0)
def annDig (t q u : Nat) : Ann where
  σ := Int × Int
  st := fun s x => ⟨lset (lset (keepA s 135 [2, 8, 9, 10, 11, 13, 14, 15, 17]) q (.v (.int .u64 x.1))) 16 (.v (.int .u64 x.2)), s.hp⟩
  inv := fun s x => Dig (intA s 9) (intA s 10) (intA s t) (intA s u) x.1 x.2
  μ := fun _ x => x.1.toNat
def joinDig (t q u : Nat) : Ann where
  σ := Int
  st := fun s x => ⟨lset (keepA s 135 [2, 8, 9, 10, 11, 13, 14, 15, 17]) q (.v (.int .u64 x)), s.hp⟩
  inv := fun s x => x = digI (intA s 9) (intA s 10) (intA s t) (intA s u)
  μ := fun _ _ => 0
def ADiv : FuncId → List (Nat × LoopBy) := fun _ => [(0, .annJ (annDig 11 15 13) (joinDig 11 15 13)), (2, .annJ (annDig 17 18 14) (joinDig 17 18 14))]
def ΓV : List (FuncId × CSpec) := [(181, .v sWValid)]
def ΓF : List (FuncId × CSpec) := [(180, .v sWFit), (181, .v sWValid)]
def ΓP : List (FuncId × CSpec) := [(168, .v sWWide), (167, .v sWAbs), (166, .v sMul64)]
def ΓQ : List (FuncId × CSpec) := [(182, .v sWSizeOf), (167, .v sWAbs), (183, .v sDiv64), (181, .v sWValid)]
def ΓT : List (FuncId × CSpec) := [(169, .v sWQuotient)]
end Go.Proofs.YtjdcicjhpegphaaGreat
/- What the functions of the program's numbers with 256 digits answer. -/
namespace Go.Proofs.YtjdcicjhpegphaaGreat
open Go Go.Abs Go.RowKit
abbrev vN (a b c d : Int) : Value := .agg ⟨[.int .u64 a, .int .u64 b, .int .u64 c, .int .u64 d]⟩
def nval (a b c d : Int) : Int := a * 6277101735386680763835789423207666416102355444464034512896 + b * 340282366920938463463374607431768211456 + c * 18446744073709551616 + d
def U4 (a b c d : Int) : Prop := U64 a ∧ U64 b ∧ U64 c ∧ U64 d
def Bit (c : Int) : Prop := c = 0 ∨ c = 1
def MulR (x y h l : Int) : Prop := U64 h ∧ U64 l ∧ h < 18446744073709551615 ∧ x * y = h * 18446744073709551616 + l ∧ 0 ≤ x * y ∧ x * y ≤ 340282366920938463426481119284349108225
def AddR (x y c s d : Int) : Prop := U64 s ∧ Bit d ∧ x + y + c = d * 18446744073709551616 + s
def SubR (x y c s d : Int) : Prop := U64 s ∧ Bit d ∧ x - y - c = s - d * 18446744073709551616
def DivR (h l y q r : Int) : Prop := U64 q ∧ 0 ≤ r ∧ r < y ∧ h * 18446744073709551616 + l = q * y + r
def qMul64 : QSpec := fun | [.int .u64 x, .int .u64 y] => some (U64 x ∧ U64 y, fun K => ∀ h l, MulR x y h l → K (pair (.int .u64 h) (.int .u64 l))) | _ => none
def eAdd64 : QSpec := fun | [.int .u64 x, .int .u64 y, .int .u64 c] => some (U64 x ∧ U64 y ∧ Bit c, fun K => ∀ s d, AddR x y c s d → K (pair (.int .u64 s) (.int .u64 d))) | _ => none
def eSub64 : QSpec := fun | [.int .u64 x, .int .u64 y, .int .u64 c] => some (U64 x ∧ U64 y ∧ Bit c, fun K => ∀ s d, SubR x y c s d → K (pair (.int .u64 s) (.int .u64 d))) | _ => none
def qDiv64 : QSpec := fun | [.int .u64 h, .int .u64 l, .int .u64 y] => some (U64 h ∧ U64 l ∧ U64 y ∧ h < y, fun K => ∀ q r, DivR h l y q r → K (pair (.int .u64 q) (.int .u64 r))) | _ => none
def ΓTs : List (FuncId × CSpec) := [(187, .e eSub64)]
def ΓTm : List (FuncId × CSpec) := [(175, .e eAdd64), (166, .q qMul64)]
def ΓTd : List (FuncId × CSpec) := [(183, .q qDiv64)]
def four : FuncId → List (Nat × LoopBy) := fun _ => [(0, .times 5)]
def wt : Int → Int | 3 => 340282366920938463463374607431768211456 | 2 => 6277101735386680763835789423207666416102355444464034512896 | 1 => 115792089237316195423570985008687907853269984665640564039457584007913129639936 | _ => 2135987035920910082395021706169552114602704522356652769947041607822219725780640550022962086936576
def six (a b c d e f : Int) : Int := a * 2135987035920910082395021706169552114602704522356652769947041607822219725780640550022962086936576 + b * 115792089237316195423570985008687907853269984665640564039457584007913129639936 + c * 6277101735386680763835789423207666416102355444464034512896 + d * 340282366920938463463374607431768211456 + e * 18446744073709551616 + f
structure Six where
  a : Int
  b : Int
  c : Int
  d : Int
  e : Int
  f : Int
  g : Int
structure SixR (i A B C D E F G a b c d e f g : Int) : Prop where
  ua : U64 a
  ub : U64 b
  uc : U64 c
  ud : U64 d
  ue : U64 e
  uf : U64 f
  ug : U64 g
  sum : ∃ k, 0 ≤ k ∧ six a b c d e f + k * 39402006196394479212279040100143613805079739270465446667948293404245721771497210611414266254884915640806627990306816 = six A B C D E F + G * wt i
def joinMul : Ann where
  σ := Six
  st := fun s x => ⟨lset (keepA s 87 [2, 3, 4, 5, 6]) 7 (.v (.int .u64 x.g)), setCs s 3 [.v (.int .u64 x.a), .v (.int .u64 x.b), .v (.int .u64 x.c), .v (.int .u64 x.d), .v (.int .u64 x.e), .v (.int .u64 x.f)]⟩
  inv := fun s x => SixR (intA s 6) (cellI s 3 0) (cellI s 3 1) (cellI s 3 2) (cellI s 3 3) (cellI s 3 4) (cellI s 3 5) (intA s 7) x.a x.b x.c x.d x.e x.f x.g
  μ := fun _ _ => 0
def AMul : FuncId → List (Nat × LoopBy) := fun _ => [(0, .times 5), (2, .times 5), (4, .timesJ 5 joinMul)]
end Go.Proofs.YtjdcicjhpegphaaGreat
/- What the functions of the program's numbers with 256 digits ask. -/
namespace Go.Proofs.YtjdcicjhpegphaaGreat
open Go Go.Abs Go.RowKit
theorem vc_trsub (a b c d x y z u : Int) (K : Value → Prop) : callsX Tryz.prog (ΓTs) (four) 177 [vN a b c d, vN x y z u] K = (
 (U64 d ∧ U64 u ∧ Bit 0) ∧ ∀ (s d_1 : Int), SubR d u 0 s d_1 → (U64 c ∧ U64 z ∧ Bit d_1) ∧ ∀ (s_1 d : Int), SubR c z d_1 s_1 d → (U64 b ∧ U64 y ∧ Bit d) ∧ ∀ (s_2 d_2 : Int), SubR b y d s_2 d_2 → (U64 a ∧ U64 x ∧ Bit d_2) ∧ ∀ (s_3 d : Int), SubR a x d_2 s_3 d → K (Value.agg #[Value.int IntKind.u64 s_3, Value.int IntKind.u64 s_2, Value.int IntKind.u64 s_1, Value.int IntKind.u64 s])) := by kernel_rfl
theorem vc_trdiv (a b c d t y : Int) (K : Value → Prop) : callsX Tryz.prog (ΓTd) (four) 186 [vN a b c d, .int .u64 t, .int .u64 y] K = (
 (U64 t ∧ U64 a ∧ U64 y ∧ t < y) ∧
 ∀ (q r : Int), DivR t a y q r → (U64 r ∧ U64 b ∧ U64 y ∧ r < y) ∧ ∀ (q_1 r_1 : Int), DivR r b y q_1 r_1 → (U64 r_1 ∧ U64 c ∧ U64 y ∧ r_1 < y) ∧ ∀ (q_2 r : Int), DivR r_1 c y q_2 r → (U64 r ∧ U64 d ∧ U64 y ∧ r < y) ∧ ∀ (q_3 r_2 : Int), DivR r d y q_3 r_2 → K (Value.agg #[Value.int IntKind.u64 q, Value.int IntKind.u64 q_1, Value.int IntKind.u64 q_2, Value.int IntKind.u64 q_3])) := by kernel_rfl
theorem vc_trmul (a b c d x y z u : Int) (K : Value → Prop) : callsX Tryz.prog (ΓTm) (AMul) 178 [vN a b c d, vN x y z u] K = (
 (U64 d ∧ U64 y) ∧
 ∀ (h l : Int),
 MulR d y h l →
 (U64 0 ∧ U64 l ∧ Bit 0) ∧
 ∀ (s d_1 : Int),
 AddR 0 l 0 s d_1 →
 (U64 s ∧ U64 0 ∧ Bit 0) ∧
 ∀ (s_1 d_2 : Int),
 AddR s 0 0 s_1 d_2 →
 (U64 d ∧ U64 x) ∧
 ∀ (h_4 l : Int),
 MulR d x h_4 l →
 (U64 0 ∧ U64 l ∧ Bit 0) ∧
 ∀ (s d_3 : Int),
 AddR 0 l 0 s d_3 →
 (U64 s ∧ U64 (IntKind.u64.wrap (IntKind.u64.wrap (h + d_1) + d_2)) ∧ Bit 0) ∧
 ∀ (s_2 d_4 : Int),
 AddR s (IntKind.u64.wrap (IntKind.u64.wrap (h + d_1) + d_2)) 0 s_2 d_4 →
 (∀ (s : Six),
 SixR 3 0 0 0 0 s_2 s_1 (IntKind.u64.wrap (IntKind.u64.wrap (h_4 + d_3) + d_4)) s.1 s.2 s.3 s.4 s.5 s.6 s.7 →
 (U64 c ∧ U64 z) ∧
 ∀ (h l : Int),
 MulR c z h l →
 (U64 s.6 ∧ U64 l ∧ Bit 0) ∧
 ∀ (s_3 d_5 : Int),
 AddR s.6 l 0 s_3 d_5 →
 (U64 s_3 ∧ U64 0 ∧ Bit 0) ∧
 ∀ (s_4 d_6 : Int),
 AddR s_3 0 0 s_4 d_6 →
 (U64 c ∧ U64 y) ∧
 ∀ (h_10 l : Int),
 MulR c y h_10 l →
 (U64 s.5 ∧ U64 l ∧ Bit 0) ∧
 ∀ (s_5 d_7 : Int),
 AddR s.5 l 0 s_5 d_7 →
 (U64 s_5 ∧ U64 (IntKind.u64.wrap (IntKind.u64.wrap (h + d_5) + d_6)) ∧ Bit 0) ∧
 ∀ (s_6 d_8 : Int),
 AddR s_5 (IntKind.u64.wrap (IntKind.u64.wrap (h + d_5) + d_6)) 0 s_6 d_8 →
 (U64 c ∧ U64 x) ∧
 ∀ (h l : Int),
 MulR c x h l →
 (U64 s.4 ∧ U64 l ∧ Bit 0) ∧
 ∀ (s_7 d_9 : Int),
 AddR s.4 l 0 s_7 d_9 →
 (U64 s_7 ∧ U64 (IntKind.u64.wrap (IntKind.u64.wrap (h_10 + d_7) + d_8)) ∧ Bit 0) ∧
 ∀ (s_8 d_10 : Int),
 AddR s_7 (IntKind.u64.wrap (IntKind.u64.wrap (h_10 + d_7) + d_8)) 0 s_8 d_10 →
 (∀ (s_9 : Six),
 SixR (IntKind.i64.wrap (3 - 1)) s.1 s.2 s.3 s_8 s_6 s_4 (IntKind.u64.wrap (IntKind.u64.wrap (h + d_9) + d_10)) s_9.1 s_9.2 s_9.3 s_9.4 s_9.5 s_9.6 s_9.7 →
 (U64 b ∧ U64 u) ∧
 ∀ (h l : Int),
 MulR b u h l →
 (U64 s_9.6 ∧ U64 l ∧ Bit 0) ∧
 ∀ (s d_11 : Int),
 AddR s_9.6 l 0 s d_11 →
 (U64 s ∧ U64 0 ∧ Bit 0) ∧
 ∀ (s_10 d_12 : Int),
 AddR s 0 0 s_10 d_12 →
 (U64 b ∧ U64 z) ∧
 ∀ (h_19 l : Int),
 MulR b z h_19 l →
 (U64 s_9.5 ∧ U64 l ∧ Bit 0) ∧
 ∀ (s d_13 : Int),
 AddR s_9.5 l 0 s d_13 →
 (U64 s ∧ U64 (IntKind.u64.wrap (IntKind.u64.wrap (h + d_11) + d_12)) ∧ Bit 0) ∧
 ∀ (s_11 d_14 : Int),
 AddR s (IntKind.u64.wrap (IntKind.u64.wrap (h + d_11) + d_12)) 0 s_11 d_14 →
 (U64 b ∧ U64 y) ∧
 ∀ (h l : Int),
 MulR b y h l →
 (U64 s_9.4 ∧ U64 l ∧ Bit 0) ∧
 ∀ (s d_15 : Int),
 AddR s_9.4 l 0 s d_15 →
 (U64 s ∧ U64 (IntKind.u64.wrap (IntKind.u64.wrap (h_19 + d_13) + d_14)) ∧ Bit 0) ∧
 ∀ (s_12 d_16 : Int),
 AddR s (IntKind.u64.wrap (IntKind.u64.wrap (h_19 + d_13) + d_14)) 0 s_12 d_16 →
 (U64 b ∧ U64 x) ∧
 ∀ (h_25 l : Int),
 MulR b x h_25 l →
 (U64 s_9.3 ∧ U64 l ∧ Bit 0) ∧
 ∀ (s d_17 : Int),
 AddR s_9.3 l 0 s d_17 →
 (U64 s ∧ U64 (IntKind.u64.wrap (IntKind.u64.wrap (h + d_15) + d_16)) ∧ Bit 0) ∧
 ∀ (s_13 d_18 : Int),
 AddR s (IntKind.u64.wrap (IntKind.u64.wrap (h + d_15) + d_16)) 0 s_13 d_18 →
 (∀ (s : Six),
 SixR (IntKind.i64.wrap (IntKind.i64.wrap (3 - 1) - 1)) s_9.1 s_9.2 s_13 s_12 s_11 s_10 (IntKind.u64.wrap (IntKind.u64.wrap (h_25 + d_17) + d_18)) s.1 s.2 s.3 s.4 s.5 s.6 s.7 →
 (U64 a ∧ U64 u) ∧
 ∀ (h l : Int),
 MulR a u h l →
 (U64 s.5 ∧ U64 l ∧ Bit 0) ∧
 ∀ (s_14 d_19 : Int),
 AddR s.5 l 0 s_14 d_19 →
 (U64 s_14 ∧ U64 0 ∧ Bit 0) ∧
 ∀ (s_15 d_20 : Int),
 AddR s_14 0 0 s_15 d_20 →
 (U64 a ∧ U64 z) ∧
 ∀ (h_31 l : Int),
 MulR a z h_31 l →
 (U64 s.4 ∧ U64 l ∧ Bit 0) ∧
 ∀ (s_16 d_21 : Int),
 AddR s.4 l 0 s_16 d_21 →
 (U64 s_16 ∧ U64 (IntKind.u64.wrap (IntKind.u64.wrap (h + d_19) + d_20)) ∧ Bit 0) ∧
 ∀ (s_17 d_22 : Int),
 AddR s_16 (IntKind.u64.wrap (IntKind.u64.wrap (h + d_19) + d_20)) 0 s_17 d_22 →
 (U64 a ∧ U64 y) ∧
 ∀ (h l : Int),
 MulR a y h l →
 (U64 s.3 ∧ U64 l ∧ Bit 0) ∧
 ∀ (s_18 d_23 : Int),
 AddR s.3 l 0 s_18 d_23 →
 (U64 s_18 ∧ U64 (IntKind.u64.wrap (IntKind.u64.wrap (h_31 + d_21) + d_22)) ∧ Bit 0) ∧
 ∀ (s_19 d_24 : Int),
 AddR s_18 (IntKind.u64.wrap (IntKind.u64.wrap (h_31 + d_21) + d_22)) 0 s_19 d_24 →
 (U64 a ∧ U64 x) ∧
 ∀ (h_37 l : Int),
 MulR a x h_37 l →
 (U64 s.2 ∧ U64 l ∧ Bit 0) ∧
 ∀ (s_20 d_25 : Int),
 AddR s.2 l 0 s_20 d_25 →
 (U64 s_20 ∧ U64 (IntKind.u64.wrap (IntKind.u64.wrap (h + d_23) + d_24)) ∧ Bit 0) ∧
 ∀ (s_21 d_26 : Int),
 AddR s_20 (IntKind.u64.wrap (IntKind.u64.wrap (h + d_23) + d_24)) 0 s_21 d_26 →
 (∀ (s_22 : Six), SixR (IntKind.i64.wrap (IntKind.i64.wrap (IntKind.i64.wrap (3 - 1) - 1) - 1)) s.1 s_21 s_19 s_17 s_15 s.6 (IntKind.u64.wrap (IntKind.u64.wrap (h_37 + d_25) + d_26)) s_22.1 s_22.2 s_22.3 s_22.4 s_22.5 s_22.6 s_22.7 → K (Value.agg #[Value.int IntKind.u64 s_22.1, Value.int IntKind.u64 s_22.2, Value.int IntKind.u64 s_22.3, Value.int IntKind.u64 s_22.4])) ∧
 bcase (decide (IntKind.u64.wrap (IntKind.u64.wrap (h_37 + d_25) + d_26) > 0))
 ((U64 s.1 ∧ U64 (IntKind.u64.wrap (IntKind.u64.wrap (h_37 + d_25) + d_26)) ∧ Bit 0) ∧
 ∀ (s_22 d_27 : Int),
 AddR s.1 (IntKind.u64.wrap (IntKind.u64.wrap (h_37 + d_25) + d_26)) 0 s_22 d_27 →
 ∃ (s_23 : Six),
 (IntKind.i64.wrap (IntKind.i64.wrap (IntKind.i64.wrap (3 - 1) - 1) - 1) = IntKind.i64.wrap (IntKind.i64.wrap (IntKind.i64.wrap (3 - 1) - 1) - 1) ∧
 d_27 = s_23.7 ∧ a = a ∧ b = b ∧ c = c ∧ d = d ∧ x = x ∧ y = y ∧ z = z ∧ u = u ∧ Int.ofNat 0 = 0 ∧ Int.ofNat 0 = 0 ∧ Int.ofNat 0 = 0 ∧ Int.ofNat 0 = 0 ∧ s_22 = s_23.1 ∧ s_21 = s_23.2 ∧ s_19 = s_23.3 ∧ s_17 = s_23.4 ∧ s_15 = s_23.5 ∧ s.6 = s_23.6 ∧ True) ∧
 SixR (IntKind.i64.wrap (IntKind.i64.wrap (IntKind.i64.wrap (3 - 1) - 1) - 1)) s.1 s_21 s_19 s_17 s_15 s.6 (IntKind.u64.wrap (IntKind.u64.wrap (h_37 + d_25) + d_26)) s_23.1 s_23.2 s_23.3 s_23.4 s_23.5 s_23.6 s_23.7)
 (∃ (s_22 : Six),
 (IntKind.i64.wrap (IntKind.i64.wrap (IntKind.i64.wrap (3 - 1) - 1) - 1) = IntKind.i64.wrap (IntKind.i64.wrap (IntKind.i64.wrap (3 - 1) - 1) - 1) ∧
 IntKind.u64.wrap (IntKind.u64.wrap (h_37 + d_25) + d_26) = s_22.7 ∧ a = a ∧ b = b ∧ c = c ∧ d = d ∧ x = x ∧ y = y ∧ z = z ∧ u = u ∧ Int.ofNat 0 = 0 ∧ Int.ofNat 0 = 0 ∧ Int.ofNat 0 = 0 ∧ Int.ofNat 0 = 0 ∧ s.1 = s_22.1 ∧ s_21 = s_22.2 ∧ s_19 = s_22.3 ∧ s_17 = s_22.4 ∧ s_15 = s_22.5 ∧ s.6 = s_22.6 ∧ True) ∧
 SixR (IntKind.i64.wrap (IntKind.i64.wrap (IntKind.i64.wrap (3 - 1) - 1) - 1)) s.1 s_21 s_19 s_17 s_15 s.6 (IntKind.u64.wrap (IntKind.u64.wrap (h_37 + d_25) + d_26)) s_22.1 s_22.2 s_22.3 s_22.4 s_22.5 s_22.6 s_22.7)) ∧
 bcase (decide (IntKind.u64.wrap (IntKind.u64.wrap (h_25 + d_17) + d_18) > 0))
 ((U64 s_9.2 ∧ U64 (IntKind.u64.wrap (IntKind.u64.wrap (h_25 + d_17) + d_18)) ∧ Bit 0) ∧
 ∀ (s d_19 : Int),
 AddR s_9.2 (IntKind.u64.wrap (IntKind.u64.wrap (h_25 + d_17) + d_18)) 0 s d_19 →
 bcase (decide (d_19 > 0))
 ((U64 s_9.1 ∧ U64 d_19 ∧ Bit 0) ∧
 ∀ (s_14 d_20 : Int),
 AddR s_9.1 d_19 0 s_14 d_20 →
 ∃ (s_15 : Six),
 (IntKind.i64.wrap (IntKind.i64.wrap (3 - 1) - 1) = IntKind.i64.wrap (IntKind.i64.wrap (3 - 1) - 1) ∧ d_20 = s_15.7 ∧ a = a ∧ b = b ∧ c = c ∧ d = d ∧ x = x ∧ y = y ∧ z = z ∧ u = u ∧ Int.ofNat 0 = 0 ∧ Int.ofNat 0 = 0 ∧ Int.ofNat 0 = 0 ∧ Int.ofNat 0 = 0 ∧ s_14 = s_15.1 ∧ s = s_15.2 ∧ s_13 = s_15.3 ∧ s_12 = s_15.4 ∧ s_11 = s_15.5 ∧ s_10 = s_15.6 ∧ True) ∧
 SixR (IntKind.i64.wrap (IntKind.i64.wrap (3 - 1) - 1)) s_9.1 s_9.2 s_13 s_12 s_11 s_10 (IntKind.u64.wrap (IntKind.u64.wrap (h_25 + d_17) + d_18)) s_15.1 s_15.2 s_15.3 s_15.4 s_15.5 s_15.6 s_15.7)
 (∃ (s_14 : Six),
 (IntKind.i64.wrap (IntKind.i64.wrap (3 - 1) - 1) = IntKind.i64.wrap (IntKind.i64.wrap (3 - 1) - 1) ∧ d_19 = s_14.7 ∧ a = a ∧ b = b ∧ c = c ∧ d = d ∧ x = x ∧ y = y ∧ z = z ∧ u = u ∧ Int.ofNat 0 = 0 ∧ Int.ofNat 0 = 0 ∧ Int.ofNat 0 = 0 ∧ Int.ofNat 0 = 0 ∧ s_9.1 = s_14.1 ∧ s = s_14.2 ∧ s_13 = s_14.3 ∧ s_12 = s_14.4 ∧ s_11 = s_14.5 ∧ s_10 = s_14.6 ∧ True) ∧
 SixR (IntKind.i64.wrap (IntKind.i64.wrap (3 - 1) - 1)) s_9.1 s_9.2 s_13 s_12 s_11 s_10 (IntKind.u64.wrap (IntKind.u64.wrap (h_25 + d_17) + d_18)) s_14.1 s_14.2 s_14.3 s_14.4 s_14.5 s_14.6 s_14.7))
 (∃ (s : Six),
 (IntKind.i64.wrap (IntKind.i64.wrap (3 - 1) - 1) = IntKind.i64.wrap (IntKind.i64.wrap (3 - 1) - 1) ∧ IntKind.u64.wrap (IntKind.u64.wrap (h_25 + d_17) + d_18) = s.7 ∧ a = a ∧ b = b ∧ c = c ∧ d = d ∧ x = x ∧ y = y ∧ z = z ∧ u = u ∧ Int.ofNat 0 = 0 ∧ Int.ofNat 0 = 0 ∧ Int.ofNat 0 = 0 ∧ Int.ofNat 0 = 0 ∧ s_9.1 = s.1 ∧ s_9.2 = s.2 ∧ s_13 = s.3 ∧ s_12 = s.4 ∧ s_11 = s.5 ∧ s_10 = s.6 ∧ True) ∧
 SixR (IntKind.i64.wrap (IntKind.i64.wrap (3 - 1) - 1)) s_9.1 s_9.2 s_13 s_12 s_11 s_10 (IntKind.u64.wrap (IntKind.u64.wrap (h_25 + d_17) + d_18)) s.1 s.2 s.3 s.4 s.5 s.6 s.7)) ∧
 bcase (decide (IntKind.u64.wrap (IntKind.u64.wrap (h + d_9) + d_10) > 0))
 ((U64 s.3 ∧ U64 (IntKind.u64.wrap (IntKind.u64.wrap (h + d_9) + d_10)) ∧ Bit 0) ∧
 ∀ (s_9 d_11 : Int),
 AddR s.3 (IntKind.u64.wrap (IntKind.u64.wrap (h + d_9) + d_10)) 0 s_9 d_11 →
 bcase (decide (d_11 > 0))
 ((U64 s.2 ∧ U64 d_11 ∧ Bit 0) ∧
 ∀ (s_10 d_12 : Int),
 AddR s.2 d_11 0 s_10 d_12 →
 bcase (decide (d_12 > 0))
 ((U64 s.1 ∧ U64 d_12 ∧ Bit 0) ∧
 ∀ (s_11 d_13 : Int),
 AddR s.1 d_12 0 s_11 d_13 →
 ∃ (s_12 : Six),
 (IntKind.i64.wrap (3 - 1) = IntKind.i64.wrap (3 - 1) ∧ d_13 = s_12.7 ∧ a = a ∧ b = b ∧ c = c ∧ d = d ∧ x = x ∧ y = y ∧ z = z ∧ u = u ∧ Int.ofNat 0 = 0 ∧ Int.ofNat 0 = 0 ∧ Int.ofNat 0 = 0 ∧ Int.ofNat 0 = 0 ∧ s_11 = s_12.1 ∧ s_10 = s_12.2 ∧ s_9 = s_12.3 ∧ s_8 = s_12.4 ∧ s_6 = s_12.5 ∧ s_4 = s_12.6 ∧ True) ∧
 SixR (IntKind.i64.wrap (3 - 1)) s.1 s.2 s.3 s_8 s_6 s_4 (IntKind.u64.wrap (IntKind.u64.wrap (h + d_9) + d_10)) s_12.1 s_12.2 s_12.3 s_12.4 s_12.5 s_12.6 s_12.7)
 (∃ (s_11 : Six),
 (IntKind.i64.wrap (3 - 1) = IntKind.i64.wrap (3 - 1) ∧ d_12 = s_11.7 ∧ a = a ∧ b = b ∧ c = c ∧ d = d ∧ x = x ∧ y = y ∧ z = z ∧ u = u ∧ Int.ofNat 0 = 0 ∧ Int.ofNat 0 = 0 ∧ Int.ofNat 0 = 0 ∧ Int.ofNat 0 = 0 ∧ s.1 = s_11.1 ∧ s_10 = s_11.2 ∧ s_9 = s_11.3 ∧ s_8 = s_11.4 ∧ s_6 = s_11.5 ∧ s_4 = s_11.6 ∧ True) ∧
 SixR (IntKind.i64.wrap (3 - 1)) s.1 s.2 s.3 s_8 s_6 s_4 (IntKind.u64.wrap (IntKind.u64.wrap (h + d_9) + d_10)) s_11.1 s_11.2 s_11.3 s_11.4 s_11.5 s_11.6 s_11.7))
 (∃ (s_10 : Six),
 (IntKind.i64.wrap (3 - 1) = IntKind.i64.wrap (3 - 1) ∧ d_11 = s_10.7 ∧ a = a ∧ b = b ∧ c = c ∧ d = d ∧ x = x ∧ y = y ∧ z = z ∧ u = u ∧ Int.ofNat 0 = 0 ∧ Int.ofNat 0 = 0 ∧ Int.ofNat 0 = 0 ∧ Int.ofNat 0 = 0 ∧ s.1 = s_10.1 ∧ s.2 = s_10.2 ∧ s_9 = s_10.3 ∧ s_8 = s_10.4 ∧ s_6 = s_10.5 ∧ s_4 = s_10.6 ∧ True) ∧
 SixR (IntKind.i64.wrap (3 - 1)) s.1 s.2 s.3 s_8 s_6 s_4 (IntKind.u64.wrap (IntKind.u64.wrap (h + d_9) + d_10)) s_10.1 s_10.2 s_10.3 s_10.4 s_10.5 s_10.6 s_10.7))
 (∃ (s_9 : Six),
 (IntKind.i64.wrap (3 - 1) = IntKind.i64.wrap (3 - 1) ∧ IntKind.u64.wrap (IntKind.u64.wrap (h + d_9) + d_10) = s_9.7 ∧ a = a ∧ b = b ∧ c = c ∧ d = d ∧ x = x ∧ y = y ∧ z = z ∧ u = u ∧ Int.ofNat 0 = 0 ∧ Int.ofNat 0 = 0 ∧ Int.ofNat 0 = 0 ∧ Int.ofNat 0 = 0 ∧ s.1 = s_9.1 ∧ s.2 = s_9.2 ∧ s.3 = s_9.3 ∧ s_8 = s_9.4 ∧ s_6 = s_9.5 ∧ s_4 = s_9.6 ∧ True) ∧
 SixR (IntKind.i64.wrap (3 - 1)) s.1 s.2 s.3 s_8 s_6 s_4 (IntKind.u64.wrap (IntKind.u64.wrap (h + d_9) + d_10)) s_9.1 s_9.2 s_9.3 s_9.4 s_9.5 s_9.6 s_9.7)) ∧
 bcase (decide (IntKind.u64.wrap (IntKind.u64.wrap (h_4 + d_3) + d_4) > 0))
 ((U64 0 ∧ U64 (IntKind.u64.wrap (IntKind.u64.wrap (h_4 + d_3) + d_4)) ∧ Bit 0) ∧
 ∀ (s d_5 : Int),
 AddR 0 (IntKind.u64.wrap (IntKind.u64.wrap (h_4 + d_3) + d_4)) 0 s d_5 →
 bcase (decide (d_5 > 0))
 ((U64 0 ∧ U64 d_5 ∧ Bit 0) ∧
 ∀ (s_3 d_6 : Int),
 AddR 0 d_5 0 s_3 d_6 →
 bcase (decide (d_6 > 0))
 ((U64 0 ∧ U64 d_6 ∧ Bit 0) ∧
 ∀ (s_4 d_7 : Int),
 AddR 0 d_6 0 s_4 d_7 →
 bcase (decide (d_7 > 0))
 ((U64 0 ∧ U64 d_7 ∧ Bit 0) ∧
 ∀ (s_5 d_8 : Int),
 AddR 0 d_7 0 s_5 d_8 →
 ∃ (s_6 : Six), (Int.ofNat 3 = 3 ∧ d_8 = s_6.7 ∧ a = a ∧ b = b ∧ c = c ∧ d = d ∧ x = x ∧ y = y ∧ z = z ∧ u = u ∧ Int.ofNat 0 = 0 ∧ Int.ofNat 0 = 0 ∧ Int.ofNat 0 = 0 ∧ Int.ofNat 0 = 0 ∧ s_5 = s_6.1 ∧ s_4 = s_6.2 ∧ s_3 = s_6.3 ∧ s = s_6.4 ∧ s_2 = s_6.5 ∧ s_1 = s_6.6 ∧ True) ∧ SixR 3 0 0 0 0 s_2 s_1 (IntKind.u64.wrap (IntKind.u64.wrap (h_4 + d_3) + d_4)) s_6.1 s_6.2 s_6.3 s_6.4 s_6.5 s_6.6 s_6.7)
 (∃ (s_5 : Six), (Int.ofNat 3 = 3 ∧ d_7 = s_5.7 ∧ a = a ∧ b = b ∧ c = c ∧ d = d ∧ x = x ∧ y = y ∧ z = z ∧ u = u ∧ Int.ofNat 0 = 0 ∧ Int.ofNat 0 = 0 ∧ Int.ofNat 0 = 0 ∧ Int.ofNat 0 = 0 ∧ 0 = s_5.1 ∧ s_4 = s_5.2 ∧ s_3 = s_5.3 ∧ s = s_5.4 ∧ s_2 = s_5.5 ∧ s_1 = s_5.6 ∧ True) ∧ SixR 3 0 0 0 0 s_2 s_1 (IntKind.u64.wrap (IntKind.u64.wrap (h_4 + d_3) + d_4)) s_5.1 s_5.2 s_5.3 s_5.4 s_5.5 s_5.6 s_5.7))
 (∃ (s_4 : Six), (Int.ofNat 3 = 3 ∧ d_6 = s_4.7 ∧ a = a ∧ b = b ∧ c = c ∧ d = d ∧ x = x ∧ y = y ∧ z = z ∧ u = u ∧ Int.ofNat 0 = 0 ∧ Int.ofNat 0 = 0 ∧ Int.ofNat 0 = 0 ∧ Int.ofNat 0 = 0 ∧ 0 = s_4.1 ∧ 0 = s_4.2 ∧ s_3 = s_4.3 ∧ s = s_4.4 ∧ s_2 = s_4.5 ∧ s_1 = s_4.6 ∧ True) ∧ SixR 3 0 0 0 0 s_2 s_1 (IntKind.u64.wrap (IntKind.u64.wrap (h_4 + d_3) + d_4)) s_4.1 s_4.2 s_4.3 s_4.4 s_4.5 s_4.6 s_4.7))
 (∃ (s_3 : Six), (Int.ofNat 3 = 3 ∧ d_5 = s_3.7 ∧ a = a ∧ b = b ∧ c = c ∧ d = d ∧ x = x ∧ y = y ∧ z = z ∧ u = u ∧ Int.ofNat 0 = 0 ∧ Int.ofNat 0 = 0 ∧ Int.ofNat 0 = 0 ∧ Int.ofNat 0 = 0 ∧ 0 = s_3.1 ∧ 0 = s_3.2 ∧ 0 = s_3.3 ∧ s = s_3.4 ∧ s_2 = s_3.5 ∧ s_1 = s_3.6 ∧ True) ∧ SixR 3 0 0 0 0 s_2 s_1 (IntKind.u64.wrap (IntKind.u64.wrap (h_4 + d_3) + d_4)) s_3.1 s_3.2 s_3.3 s_3.4 s_3.5 s_3.6 s_3.7))
 (∃ (s : Six),
 (Int.ofNat 3 = 3 ∧ IntKind.u64.wrap (IntKind.u64.wrap (h_4 + d_3) + d_4) = s.7 ∧ a = a ∧ b = b ∧ c = c ∧ d = d ∧ x = x ∧ y = y ∧ z = z ∧ u = u ∧ Int.ofNat 0 = 0 ∧ Int.ofNat 0 = 0 ∧ Int.ofNat 0 = 0 ∧ Int.ofNat 0 = 0 ∧ 0 = s.1 ∧ 0 = s.2 ∧ 0 = s.3 ∧ 0 = s.4 ∧ s_2 = s.5 ∧ s_1 = s.6 ∧ True) ∧ SixR 3 0 0 0 0 s_2 s_1 (IntKind.u64.wrap (IntKind.u64.wrap (h_4 + d_3) + d_4)) s.1 s.2 s.3 s.4 s.5 s.6 s.7)) := by kernel_rfl
end Go.Proofs.YtjdcicjhpegphaaGreat
/- What the division of words asks. -/
namespace Go.Proofs.YtjdcicjhpegphaaGreat
open Go Go.Abs Go.RowKit
theorem vc_div64 (h l y : Int) (K : Value → Prop) : callsX Tryz.prog (ΓD) (ADiv) 183 [.int .u64 h, .int .u64 l, .int .u64 y] K = (
 bcase (y == 0) False
 (bcase (decide (y ≤ h)) False
 (bcase (h == 0) (bcase (y == 0) False (bcase (y == 0) False (K (Value.tuple #[Value.int IntKind.u64 (IntKind.u64.wrap (l.tdiv y)), Value.int IntKind.u64 (l.tmod y)]))))
 (U64 y ∧
 bcase (decide (IntKind.u64.wrap (lzI y) < 0)) False
 (bcase (decide (IntKind.u64.wrap (lzI y) < 0)) False
 (bcase (decide (IntKind.u64.wrap (64 - IntKind.u64.wrap (lzI y)) < 0)) False
 (bcase (decide (IntKind.u64.wrap (lzI y) < 0)) False
 (bcase ((IntKind.u64.wrap (y * 2 ^ min (IntKind.u64.wrap (lzI y)).toNat 64)).fdiv (2 ^ 32) == 0) False
 ((∀ (s : Int),
 s =
 digI ((IntKind.u64.wrap (y * 2 ^ min (IntKind.u64.wrap (lzI y)).toNat 64)).fdiv (2 ^ 32)) (andI IntKind.u64 (IntKind.u64.wrap (y * 2 ^ min (IntKind.u64.wrap (lzI y)).toNat 64)) 4294967295) (orI IntKind.u64 (IntKind.u64.wrap (h * 2 ^ min (IntKind.u64.wrap (lzI y)).toNat 64)) (l.fdiv (2 ^ min (IntKind.u64.wrap (64 - IntKind.u64.wrap (lzI y))).toNat 64)))
 ((IntKind.u64.wrap (l * 2 ^ min (IntKind.u64.wrap (lzI y)).toNat 64)).fdiv (2 ^ 32)) →
 bcase ((IntKind.u64.wrap (y * 2 ^ min (IntKind.u64.wrap (lzI y)).toNat 64)).fdiv (2 ^ 32) == 0) False
 ((∀ (s_1 : Int),
 s_1 =
 digI ((IntKind.u64.wrap (y * 2 ^ min (IntKind.u64.wrap (lzI y)).toNat 64)).fdiv (2 ^ 32)) (andI IntKind.u64 (IntKind.u64.wrap (y * 2 ^ min (IntKind.u64.wrap (lzI y)).toNat 64)) 4294967295)
 (IntKind.u64.wrap
 (IntKind.u64.wrap (IntKind.u64.wrap (orI IntKind.u64 (IntKind.u64.wrap (h * 2 ^ min (IntKind.u64.wrap (lzI y)).toNat 64)) (l.fdiv (2 ^ min (IntKind.u64.wrap (64 - IntKind.u64.wrap (lzI y))).toNat 64)) * 4294967296) + (IntKind.u64.wrap (l * 2 ^ min (IntKind.u64.wrap (lzI y)).toNat 64)).fdiv (2 ^ 32)) - IntKind.u64.wrap (s * IntKind.u64.wrap (y * 2 ^ min (IntKind.u64.wrap (lzI y)).toNat 64))))
 (andI IntKind.u64 (IntKind.u64.wrap (l * 2 ^ min (IntKind.u64.wrap (lzI y)).toNat 64)) 4294967295) →
 bcase (decide (IntKind.u64.wrap (lzI y) < 0)) False
 (K
 (Value.tuple
 #[Value.int IntKind.u64 (IntKind.u64.wrap (IntKind.u64.wrap (s * 4294967296) + s_1)),
 Value.int IntKind.u64
 ((IntKind.u64.wrap
 (IntKind.u64.wrap
 (IntKind.u64.wrap
 (IntKind.u64.wrap
 (IntKind.u64.wrap (IntKind.u64.wrap (orI IntKind.u64 (IntKind.u64.wrap (h * 2 ^ min (IntKind.u64.wrap (lzI y)).toNat 64)) (l.fdiv (2 ^ min (IntKind.u64.wrap (64 - IntKind.u64.wrap (lzI y))).toNat 64)) * 4294967296) + (IntKind.u64.wrap (l * 2 ^ min (IntKind.u64.wrap (lzI y)).toNat 64)).fdiv (2 ^ 32)) - IntKind.u64.wrap (s * IntKind.u64.wrap (y * 2 ^ min (IntKind.u64.wrap (lzI y)).toNat 64))) *
 4294967296) +
 andI IntKind.u64 (IntKind.u64.wrap (l * 2 ^ min (IntKind.u64.wrap (lzI y)).toNat 64)) 4294967295) -
 IntKind.u64.wrap (s_1 * IntKind.u64.wrap (y * 2 ^ min (IntKind.u64.wrap (lzI y)).toNat 64)))).fdiv
 (2 ^ min (IntKind.u64.wrap (lzI y)).toNat 64))]))) ∧
 ∃ (s_1 : Int × Int),
 (IntKind.u64.wrap (y * 2 ^ min (IntKind.u64.wrap (lzI y)).toNat 64) = IntKind.u64.wrap (y * 2 ^ min (IntKind.u64.wrap (lzI y)).toNat 64) ∧
 IntKind.u64.wrap (lzI y) = IntKind.u64.wrap (lzI y) ∧
 (IntKind.u64.wrap (y * 2 ^ min (IntKind.u64.wrap (lzI y)).toNat 64)).fdiv (2 ^ 32) = (IntKind.u64.wrap (y * 2 ^ min (IntKind.u64.wrap (lzI y)).toNat 64)).fdiv (2 ^ 32) ∧
 andI IntKind.u64 (IntKind.u64.wrap (y * 2 ^ min (IntKind.u64.wrap (lzI y)).toNat 64)) 4294967295 = andI IntKind.u64 (IntKind.u64.wrap (y * 2 ^ min (IntKind.u64.wrap (lzI y)).toNat 64)) 4294967295 ∧
 orI IntKind.u64 (IntKind.u64.wrap (h * 2 ^ min (IntKind.u64.wrap (lzI y)).toNat 64)) (l.fdiv (2 ^ min (IntKind.u64.wrap (64 - IntKind.u64.wrap (lzI y))).toNat 64)) = orI IntKind.u64 (IntKind.u64.wrap (h * 2 ^ min (IntKind.u64.wrap (lzI y)).toNat 64)) (l.fdiv (2 ^ min (IntKind.u64.wrap (64 - IntKind.u64.wrap (lzI y))).toNat 64)) ∧
 (IntKind.u64.wrap (l * 2 ^ min (IntKind.u64.wrap (lzI y)).toNat 64)).fdiv (2 ^ 32) = (IntKind.u64.wrap (l * 2 ^ min (IntKind.u64.wrap (lzI y)).toNat 64)).fdiv (2 ^ 32) ∧
 andI IntKind.u64 (IntKind.u64.wrap (l * 2 ^ min (IntKind.u64.wrap (lzI y)).toNat 64)) 4294967295 = andI IntKind.u64 (IntKind.u64.wrap (l * 2 ^ min (IntKind.u64.wrap (lzI y)).toNat 64)) 4294967295 ∧
 s = s ∧
 IntKind.u64.wrap
 (IntKind.u64.wrap
 (IntKind.u64.wrap (IntKind.u64.wrap (orI IntKind.u64 (IntKind.u64.wrap (h * 2 ^ min (IntKind.u64.wrap (lzI y)).toNat 64)) (l.fdiv (2 ^ min (IntKind.u64.wrap (64 - IntKind.u64.wrap (lzI y))).toNat 64)) * 4294967296) + (IntKind.u64.wrap (l * 2 ^ min (IntKind.u64.wrap (lzI y)).toNat 64)).fdiv (2 ^ 32)) - IntKind.u64.wrap (s * IntKind.u64.wrap (y * 2 ^ min (IntKind.u64.wrap (lzI y)).toNat 64))) -
 IntKind.u64.wrap
 (IntKind.u64.wrap
 ((IntKind.u64.wrap
 (IntKind.u64.wrap (IntKind.u64.wrap (orI IntKind.u64 (IntKind.u64.wrap (h * 2 ^ min (IntKind.u64.wrap (lzI y)).toNat 64)) (l.fdiv (2 ^ min (IntKind.u64.wrap (64 - IntKind.u64.wrap (lzI y))).toNat 64)) * 4294967296) + (IntKind.u64.wrap (l * 2 ^ min (IntKind.u64.wrap (lzI y)).toNat 64)).fdiv (2 ^ 32)) - IntKind.u64.wrap (s * IntKind.u64.wrap (y * 2 ^ min (IntKind.u64.wrap (lzI y)).toNat 64)))).tdiv
 ((IntKind.u64.wrap (y * 2 ^ min (IntKind.u64.wrap (lzI y)).toNat 64)).fdiv (2 ^ 32))) *
 (IntKind.u64.wrap (y * 2 ^ min (IntKind.u64.wrap (lzI y)).toNat 64)).fdiv (2 ^ 32))) =
 s_1.snd ∧
 IntKind.u64.wrap
 (IntKind.u64.wrap (IntKind.u64.wrap (orI IntKind.u64 (IntKind.u64.wrap (h * 2 ^ min (IntKind.u64.wrap (lzI y)).toNat 64)) (l.fdiv (2 ^ min (IntKind.u64.wrap (64 - IntKind.u64.wrap (lzI y))).toNat 64)) * 4294967296) + (IntKind.u64.wrap (l * 2 ^ min (IntKind.u64.wrap (lzI y)).toNat 64)).fdiv (2 ^ 32)) - IntKind.u64.wrap (s * IntKind.u64.wrap (y * 2 ^ min (IntKind.u64.wrap (lzI y)).toNat 64))) =
 IntKind.u64.wrap
 (IntKind.u64.wrap (IntKind.u64.wrap (orI IntKind.u64 (IntKind.u64.wrap (h * 2 ^ min (IntKind.u64.wrap (lzI y)).toNat 64)) (l.fdiv (2 ^ min (IntKind.u64.wrap (64 - IntKind.u64.wrap (lzI y))).toNat 64)) * 4294967296) + (IntKind.u64.wrap (l * 2 ^ min (IntKind.u64.wrap (lzI y)).toNat 64)).fdiv (2 ^ 32)) - IntKind.u64.wrap (s * IntKind.u64.wrap (y * 2 ^ min (IntKind.u64.wrap (lzI y)).toNat 64))) ∧
 IntKind.u64.wrap
 ((IntKind.u64.wrap
 (IntKind.u64.wrap (IntKind.u64.wrap (orI IntKind.u64 (IntKind.u64.wrap (h * 2 ^ min (IntKind.u64.wrap (lzI y)).toNat 64)) (l.fdiv (2 ^ min (IntKind.u64.wrap (64 - IntKind.u64.wrap (lzI y))).toNat 64)) * 4294967296) + (IntKind.u64.wrap (l * 2 ^ min (IntKind.u64.wrap (lzI y)).toNat 64)).fdiv (2 ^ 32)) - IntKind.u64.wrap (s * IntKind.u64.wrap (y * 2 ^ min (IntKind.u64.wrap (lzI y)).toNat 64)))).tdiv
 ((IntKind.u64.wrap (y * 2 ^ min (IntKind.u64.wrap (lzI y)).toNat 64)).fdiv (2 ^ 32))) =
 s_1.fst ∧
 True) ∧
 Dig ((IntKind.u64.wrap (y * 2 ^ min (IntKind.u64.wrap (lzI y)).toNat 64)).fdiv (2 ^ 32)) (andI IntKind.u64 (IntKind.u64.wrap (y * 2 ^ min (IntKind.u64.wrap (lzI y)).toNat 64)) 4294967295)
 (IntKind.u64.wrap
 (IntKind.u64.wrap (IntKind.u64.wrap (orI IntKind.u64 (IntKind.u64.wrap (h * 2 ^ min (IntKind.u64.wrap (lzI y)).toNat 64)) (l.fdiv (2 ^ min (IntKind.u64.wrap (64 - IntKind.u64.wrap (lzI y))).toNat 64)) * 4294967296) + (IntKind.u64.wrap (l * 2 ^ min (IntKind.u64.wrap (lzI y)).toNat 64)).fdiv (2 ^ 32)) - IntKind.u64.wrap (s * IntKind.u64.wrap (y * 2 ^ min (IntKind.u64.wrap (lzI y)).toNat 64))))
 (andI IntKind.u64 (IntKind.u64.wrap (l * 2 ^ min (IntKind.u64.wrap (lzI y)).toNat 64)) 4294967295) s_1.fst s_1.snd ∧
 ∀ (s_2 : Int × Int),
 Dig ((IntKind.u64.wrap (y * 2 ^ min (IntKind.u64.wrap (lzI y)).toNat 64)).fdiv (2 ^ 32)) (andI IntKind.u64 (IntKind.u64.wrap (y * 2 ^ min (IntKind.u64.wrap (lzI y)).toNat 64)) 4294967295)
 (IntKind.u64.wrap
 (IntKind.u64.wrap (IntKind.u64.wrap (orI IntKind.u64 (IntKind.u64.wrap (h * 2 ^ min (IntKind.u64.wrap (lzI y)).toNat 64)) (l.fdiv (2 ^ min (IntKind.u64.wrap (64 - IntKind.u64.wrap (lzI y))).toNat 64)) * 4294967296) + (IntKind.u64.wrap (l * 2 ^ min (IntKind.u64.wrap (lzI y)).toNat 64)).fdiv (2 ^ 32)) - IntKind.u64.wrap (s * IntKind.u64.wrap (y * 2 ^ min (IntKind.u64.wrap (lzI y)).toNat 64))))
 (andI IntKind.u64 (IntKind.u64.wrap (l * 2 ^ min (IntKind.u64.wrap (lzI y)).toNat 64)) 4294967295) s_2.fst s_2.snd →
 bcase (decide (s_2.fst ≥ 4294967296))
 (bcase (decide (IntKind.u64.wrap (s_2.snd + (IntKind.u64.wrap (y * 2 ^ min (IntKind.u64.wrap (lzI y)).toNat 64)).fdiv (2 ^ 32)) ≥ 4294967296))
 (∃ (s_3 : Int),
 (IntKind.u64.wrap (y * 2 ^ min (IntKind.u64.wrap (lzI y)).toNat 64) = IntKind.u64.wrap (y * 2 ^ min (IntKind.u64.wrap (lzI y)).toNat 64) ∧
 IntKind.u64.wrap (lzI y) = IntKind.u64.wrap (lzI y) ∧
 (IntKind.u64.wrap (y * 2 ^ min (IntKind.u64.wrap (lzI y)).toNat 64)).fdiv (2 ^ 32) = (IntKind.u64.wrap (y * 2 ^ min (IntKind.u64.wrap (lzI y)).toNat 64)).fdiv (2 ^ 32) ∧
 andI IntKind.u64 (IntKind.u64.wrap (y * 2 ^ min (IntKind.u64.wrap (lzI y)).toNat 64)) 4294967295 = andI IntKind.u64 (IntKind.u64.wrap (y * 2 ^ min (IntKind.u64.wrap (lzI y)).toNat 64)) 4294967295 ∧
 orI IntKind.u64 (IntKind.u64.wrap (h * 2 ^ min (IntKind.u64.wrap (lzI y)).toNat 64)) (l.fdiv (2 ^ min (IntKind.u64.wrap (64 - IntKind.u64.wrap (lzI y))).toNat 64)) = orI IntKind.u64 (IntKind.u64.wrap (h * 2 ^ min (IntKind.u64.wrap (lzI y)).toNat 64)) (l.fdiv (2 ^ min (IntKind.u64.wrap (64 - IntKind.u64.wrap (lzI y))).toNat 64)) ∧
 (IntKind.u64.wrap (l * 2 ^ min (IntKind.u64.wrap (lzI y)).toNat 64)).fdiv (2 ^ 32) = (IntKind.u64.wrap (l * 2 ^ min (IntKind.u64.wrap (lzI y)).toNat 64)).fdiv (2 ^ 32) ∧
 andI IntKind.u64 (IntKind.u64.wrap (l * 2 ^ min (IntKind.u64.wrap (lzI y)).toNat 64)) 4294967295 = andI IntKind.u64 (IntKind.u64.wrap (l * 2 ^ min (IntKind.u64.wrap (lzI y)).toNat 64)) 4294967295 ∧
 s = s ∧
 IntKind.u64.wrap
 (IntKind.u64.wrap (IntKind.u64.wrap (orI IntKind.u64 (IntKind.u64.wrap (h * 2 ^ min (IntKind.u64.wrap (lzI y)).toNat 64)) (l.fdiv (2 ^ min (IntKind.u64.wrap (64 - IntKind.u64.wrap (lzI y))).toNat 64)) * 4294967296) + (IntKind.u64.wrap (l * 2 ^ min (IntKind.u64.wrap (lzI y)).toNat 64)).fdiv (2 ^ 32)) - IntKind.u64.wrap (s * IntKind.u64.wrap (y * 2 ^ min (IntKind.u64.wrap (lzI y)).toNat 64))) =
 IntKind.u64.wrap
 (IntKind.u64.wrap (IntKind.u64.wrap (orI IntKind.u64 (IntKind.u64.wrap (h * 2 ^ min (IntKind.u64.wrap (lzI y)).toNat 64)) (l.fdiv (2 ^ min (IntKind.u64.wrap (64 - IntKind.u64.wrap (lzI y))).toNat 64)) * 4294967296) + (IntKind.u64.wrap (l * 2 ^ min (IntKind.u64.wrap (lzI y)).toNat 64)).fdiv (2 ^ 32)) - IntKind.u64.wrap (s * IntKind.u64.wrap (y * 2 ^ min (IntKind.u64.wrap (lzI y)).toNat 64))) ∧
 IntKind.u64.wrap (s_2.fst - 1) = s_3 ∧ True) ∧
 s_3 =
 digI ((IntKind.u64.wrap (y * 2 ^ min (IntKind.u64.wrap (lzI y)).toNat 64)).fdiv (2 ^ 32)) (andI IntKind.u64 (IntKind.u64.wrap (y * 2 ^ min (IntKind.u64.wrap (lzI y)).toNat 64)) 4294967295)
 (IntKind.u64.wrap
 (IntKind.u64.wrap (IntKind.u64.wrap (orI IntKind.u64 (IntKind.u64.wrap (h * 2 ^ min (IntKind.u64.wrap (lzI y)).toNat 64)) (l.fdiv (2 ^ min (IntKind.u64.wrap (64 - IntKind.u64.wrap (lzI y))).toNat 64)) * 4294967296) + (IntKind.u64.wrap (l * 2 ^ min (IntKind.u64.wrap (lzI y)).toNat 64)).fdiv (2 ^ 32)) - IntKind.u64.wrap (s * IntKind.u64.wrap (y * 2 ^ min (IntKind.u64.wrap (lzI y)).toNat 64))))
 (andI IntKind.u64 (IntKind.u64.wrap (l * 2 ^ min (IntKind.u64.wrap (lzI y)).toNat 64)) 4294967295))
 (∃ (s_3 : Int × Int),
 (IntKind.u64.wrap (y * 2 ^ min (IntKind.u64.wrap (lzI y)).toNat 64) = IntKind.u64.wrap (y * 2 ^ min (IntKind.u64.wrap (lzI y)).toNat 64) ∧
 IntKind.u64.wrap (lzI y) = IntKind.u64.wrap (lzI y) ∧
 (IntKind.u64.wrap (y * 2 ^ min (IntKind.u64.wrap (lzI y)).toNat 64)).fdiv (2 ^ 32) = (IntKind.u64.wrap (y * 2 ^ min (IntKind.u64.wrap (lzI y)).toNat 64)).fdiv (2 ^ 32) ∧
 andI IntKind.u64 (IntKind.u64.wrap (y * 2 ^ min (IntKind.u64.wrap (lzI y)).toNat 64)) 4294967295 = andI IntKind.u64 (IntKind.u64.wrap (y * 2 ^ min (IntKind.u64.wrap (lzI y)).toNat 64)) 4294967295 ∧
 orI IntKind.u64 (IntKind.u64.wrap (h * 2 ^ min (IntKind.u64.wrap (lzI y)).toNat 64)) (l.fdiv (2 ^ min (IntKind.u64.wrap (64 - IntKind.u64.wrap (lzI y))).toNat 64)) = orI IntKind.u64 (IntKind.u64.wrap (h * 2 ^ min (IntKind.u64.wrap (lzI y)).toNat 64)) (l.fdiv (2 ^ min (IntKind.u64.wrap (64 - IntKind.u64.wrap (lzI y))).toNat 64)) ∧
 (IntKind.u64.wrap (l * 2 ^ min (IntKind.u64.wrap (lzI y)).toNat 64)).fdiv (2 ^ 32) = (IntKind.u64.wrap (l * 2 ^ min (IntKind.u64.wrap (lzI y)).toNat 64)).fdiv (2 ^ 32) ∧
 andI IntKind.u64 (IntKind.u64.wrap (l * 2 ^ min (IntKind.u64.wrap (lzI y)).toNat 64)) 4294967295 = andI IntKind.u64 (IntKind.u64.wrap (l * 2 ^ min (IntKind.u64.wrap (lzI y)).toNat 64)) 4294967295 ∧
 s = s ∧
 IntKind.u64.wrap (s_2.snd + (IntKind.u64.wrap (y * 2 ^ min (IntKind.u64.wrap (lzI y)).toNat 64)).fdiv (2 ^ 32)) = s_3.snd ∧
 IntKind.u64.wrap
 (IntKind.u64.wrap (IntKind.u64.wrap (orI IntKind.u64 (IntKind.u64.wrap (h * 2 ^ min (IntKind.u64.wrap (lzI y)).toNat 64)) (l.fdiv (2 ^ min (IntKind.u64.wrap (64 - IntKind.u64.wrap (lzI y))).toNat 64)) * 4294967296) + (IntKind.u64.wrap (l * 2 ^ min (IntKind.u64.wrap (lzI y)).toNat 64)).fdiv (2 ^ 32)) - IntKind.u64.wrap (s * IntKind.u64.wrap (y * 2 ^ min (IntKind.u64.wrap (lzI y)).toNat 64))) =
 IntKind.u64.wrap
 (IntKind.u64.wrap (IntKind.u64.wrap (orI IntKind.u64 (IntKind.u64.wrap (h * 2 ^ min (IntKind.u64.wrap (lzI y)).toNat 64)) (l.fdiv (2 ^ min (IntKind.u64.wrap (64 - IntKind.u64.wrap (lzI y))).toNat 64)) * 4294967296) + (IntKind.u64.wrap (l * 2 ^ min (IntKind.u64.wrap (lzI y)).toNat 64)).fdiv (2 ^ 32)) - IntKind.u64.wrap (s * IntKind.u64.wrap (y * 2 ^ min (IntKind.u64.wrap (lzI y)).toNat 64))) ∧
 IntKind.u64.wrap (s_2.fst - 1) = s_3.fst ∧ True) ∧
 Dig ((IntKind.u64.wrap (y * 2 ^ min (IntKind.u64.wrap (lzI y)).toNat 64)).fdiv (2 ^ 32)) (andI IntKind.u64 (IntKind.u64.wrap (y * 2 ^ min (IntKind.u64.wrap (lzI y)).toNat 64)) 4294967295)
 (IntKind.u64.wrap
 (IntKind.u64.wrap (IntKind.u64.wrap (orI IntKind.u64 (IntKind.u64.wrap (h * 2 ^ min (IntKind.u64.wrap (lzI y)).toNat 64)) (l.fdiv (2 ^ min (IntKind.u64.wrap (64 - IntKind.u64.wrap (lzI y))).toNat 64)) * 4294967296) + (IntKind.u64.wrap (l * 2 ^ min (IntKind.u64.wrap (lzI y)).toNat 64)).fdiv (2 ^ 32)) - IntKind.u64.wrap (s * IntKind.u64.wrap (y * 2 ^ min (IntKind.u64.wrap (lzI y)).toNat 64))))
 (andI IntKind.u64 (IntKind.u64.wrap (l * 2 ^ min (IntKind.u64.wrap (lzI y)).toNat 64)) 4294967295) s_3.fst s_3.snd ∧
 s_3.fst.toNat < s_2.fst.toNat))
 (bcase (decide (IntKind.u64.wrap (s_2.fst * andI IntKind.u64 (IntKind.u64.wrap (y * 2 ^ min (IntKind.u64.wrap (lzI y)).toNat 64)) 4294967295) > IntKind.u64.wrap (IntKind.u64.wrap (4294967296 * s_2.snd) + andI IntKind.u64 (IntKind.u64.wrap (l * 2 ^ min (IntKind.u64.wrap (lzI y)).toNat 64)) 4294967295)))
 (bcase (decide (IntKind.u64.wrap (s_2.snd + (IntKind.u64.wrap (y * 2 ^ min (IntKind.u64.wrap (lzI y)).toNat 64)).fdiv (2 ^ 32)) ≥ 4294967296))
 (∃ (s_3 : Int),
 (IntKind.u64.wrap (y * 2 ^ min (IntKind.u64.wrap (lzI y)).toNat 64) = IntKind.u64.wrap (y * 2 ^ min (IntKind.u64.wrap (lzI y)).toNat 64) ∧
 IntKind.u64.wrap (lzI y) = IntKind.u64.wrap (lzI y) ∧
 (IntKind.u64.wrap (y * 2 ^ min (IntKind.u64.wrap (lzI y)).toNat 64)).fdiv (2 ^ 32) = (IntKind.u64.wrap (y * 2 ^ min (IntKind.u64.wrap (lzI y)).toNat 64)).fdiv (2 ^ 32) ∧
 andI IntKind.u64 (IntKind.u64.wrap (y * 2 ^ min (IntKind.u64.wrap (lzI y)).toNat 64)) 4294967295 = andI IntKind.u64 (IntKind.u64.wrap (y * 2 ^ min (IntKind.u64.wrap (lzI y)).toNat 64)) 4294967295 ∧
 orI IntKind.u64 (IntKind.u64.wrap (h * 2 ^ min (IntKind.u64.wrap (lzI y)).toNat 64)) (l.fdiv (2 ^ min (IntKind.u64.wrap (64 - IntKind.u64.wrap (lzI y))).toNat 64)) = orI IntKind.u64 (IntKind.u64.wrap (h * 2 ^ min (IntKind.u64.wrap (lzI y)).toNat 64)) (l.fdiv (2 ^ min (IntKind.u64.wrap (64 - IntKind.u64.wrap (lzI y))).toNat 64)) ∧
 (IntKind.u64.wrap (l * 2 ^ min (IntKind.u64.wrap (lzI y)).toNat 64)).fdiv (2 ^ 32) = (IntKind.u64.wrap (l * 2 ^ min (IntKind.u64.wrap (lzI y)).toNat 64)).fdiv (2 ^ 32) ∧
 andI IntKind.u64 (IntKind.u64.wrap (l * 2 ^ min (IntKind.u64.wrap (lzI y)).toNat 64)) 4294967295 = andI IntKind.u64 (IntKind.u64.wrap (l * 2 ^ min (IntKind.u64.wrap (lzI y)).toNat 64)) 4294967295 ∧
 s = s ∧
 IntKind.u64.wrap
 (IntKind.u64.wrap (IntKind.u64.wrap (orI IntKind.u64 (IntKind.u64.wrap (h * 2 ^ min (IntKind.u64.wrap (lzI y)).toNat 64)) (l.fdiv (2 ^ min (IntKind.u64.wrap (64 - IntKind.u64.wrap (lzI y))).toNat 64)) * 4294967296) + (IntKind.u64.wrap (l * 2 ^ min (IntKind.u64.wrap (lzI y)).toNat 64)).fdiv (2 ^ 32)) - IntKind.u64.wrap (s * IntKind.u64.wrap (y * 2 ^ min (IntKind.u64.wrap (lzI y)).toNat 64))) =
 IntKind.u64.wrap
 (IntKind.u64.wrap (IntKind.u64.wrap (orI IntKind.u64 (IntKind.u64.wrap (h * 2 ^ min (IntKind.u64.wrap (lzI y)).toNat 64)) (l.fdiv (2 ^ min (IntKind.u64.wrap (64 - IntKind.u64.wrap (lzI y))).toNat 64)) * 4294967296) + (IntKind.u64.wrap (l * 2 ^ min (IntKind.u64.wrap (lzI y)).toNat 64)).fdiv (2 ^ 32)) - IntKind.u64.wrap (s * IntKind.u64.wrap (y * 2 ^ min (IntKind.u64.wrap (lzI y)).toNat 64))) ∧
 IntKind.u64.wrap (s_2.fst - 1) = s_3 ∧ True) ∧
 s_3 =
 digI ((IntKind.u64.wrap (y * 2 ^ min (IntKind.u64.wrap (lzI y)).toNat 64)).fdiv (2 ^ 32)) (andI IntKind.u64 (IntKind.u64.wrap (y * 2 ^ min (IntKind.u64.wrap (lzI y)).toNat 64)) 4294967295)
 (IntKind.u64.wrap
 (IntKind.u64.wrap (IntKind.u64.wrap (orI IntKind.u64 (IntKind.u64.wrap (h * 2 ^ min (IntKind.u64.wrap (lzI y)).toNat 64)) (l.fdiv (2 ^ min (IntKind.u64.wrap (64 - IntKind.u64.wrap (lzI y))).toNat 64)) * 4294967296) + (IntKind.u64.wrap (l * 2 ^ min (IntKind.u64.wrap (lzI y)).toNat 64)).fdiv (2 ^ 32)) - IntKind.u64.wrap (s * IntKind.u64.wrap (y * 2 ^ min (IntKind.u64.wrap (lzI y)).toNat 64))))
 (andI IntKind.u64 (IntKind.u64.wrap (l * 2 ^ min (IntKind.u64.wrap (lzI y)).toNat 64)) 4294967295))
 (∃ (s_3 : Int × Int),
 (IntKind.u64.wrap (y * 2 ^ min (IntKind.u64.wrap (lzI y)).toNat 64) = IntKind.u64.wrap (y * 2 ^ min (IntKind.u64.wrap (lzI y)).toNat 64) ∧
 IntKind.u64.wrap (lzI y) = IntKind.u64.wrap (lzI y) ∧
 (IntKind.u64.wrap (y * 2 ^ min (IntKind.u64.wrap (lzI y)).toNat 64)).fdiv (2 ^ 32) = (IntKind.u64.wrap (y * 2 ^ min (IntKind.u64.wrap (lzI y)).toNat 64)).fdiv (2 ^ 32) ∧
 andI IntKind.u64 (IntKind.u64.wrap (y * 2 ^ min (IntKind.u64.wrap (lzI y)).toNat 64)) 4294967295 = andI IntKind.u64 (IntKind.u64.wrap (y * 2 ^ min (IntKind.u64.wrap (lzI y)).toNat 64)) 4294967295 ∧
 orI IntKind.u64 (IntKind.u64.wrap (h * 2 ^ min (IntKind.u64.wrap (lzI y)).toNat 64)) (l.fdiv (2 ^ min (IntKind.u64.wrap (64 - IntKind.u64.wrap (lzI y))).toNat 64)) = orI IntKind.u64 (IntKind.u64.wrap (h * 2 ^ min (IntKind.u64.wrap (lzI y)).toNat 64)) (l.fdiv (2 ^ min (IntKind.u64.wrap (64 - IntKind.u64.wrap (lzI y))).toNat 64)) ∧
 (IntKind.u64.wrap (l * 2 ^ min (IntKind.u64.wrap (lzI y)).toNat 64)).fdiv (2 ^ 32) = (IntKind.u64.wrap (l * 2 ^ min (IntKind.u64.wrap (lzI y)).toNat 64)).fdiv (2 ^ 32) ∧
 andI IntKind.u64 (IntKind.u64.wrap (l * 2 ^ min (IntKind.u64.wrap (lzI y)).toNat 64)) 4294967295 = andI IntKind.u64 (IntKind.u64.wrap (l * 2 ^ min (IntKind.u64.wrap (lzI y)).toNat 64)) 4294967295 ∧
 s = s ∧
 IntKind.u64.wrap (s_2.snd + (IntKind.u64.wrap (y * 2 ^ min (IntKind.u64.wrap (lzI y)).toNat 64)).fdiv (2 ^ 32)) = s_3.snd ∧
 IntKind.u64.wrap
 (IntKind.u64.wrap (IntKind.u64.wrap (orI IntKind.u64 (IntKind.u64.wrap (h * 2 ^ min (IntKind.u64.wrap (lzI y)).toNat 64)) (l.fdiv (2 ^ min (IntKind.u64.wrap (64 - IntKind.u64.wrap (lzI y))).toNat 64)) * 4294967296) + (IntKind.u64.wrap (l * 2 ^ min (IntKind.u64.wrap (lzI y)).toNat 64)).fdiv (2 ^ 32)) - IntKind.u64.wrap (s * IntKind.u64.wrap (y * 2 ^ min (IntKind.u64.wrap (lzI y)).toNat 64))) =
 IntKind.u64.wrap
 (IntKind.u64.wrap (IntKind.u64.wrap (orI IntKind.u64 (IntKind.u64.wrap (h * 2 ^ min (IntKind.u64.wrap (lzI y)).toNat 64)) (l.fdiv (2 ^ min (IntKind.u64.wrap (64 - IntKind.u64.wrap (lzI y))).toNat 64)) * 4294967296) + (IntKind.u64.wrap (l * 2 ^ min (IntKind.u64.wrap (lzI y)).toNat 64)).fdiv (2 ^ 32)) - IntKind.u64.wrap (s * IntKind.u64.wrap (y * 2 ^ min (IntKind.u64.wrap (lzI y)).toNat 64))) ∧
 IntKind.u64.wrap (s_2.fst - 1) = s_3.fst ∧ True) ∧
 Dig ((IntKind.u64.wrap (y * 2 ^ min (IntKind.u64.wrap (lzI y)).toNat 64)).fdiv (2 ^ 32)) (andI IntKind.u64 (IntKind.u64.wrap (y * 2 ^ min (IntKind.u64.wrap (lzI y)).toNat 64)) 4294967295)
 (IntKind.u64.wrap
 (IntKind.u64.wrap (IntKind.u64.wrap (orI IntKind.u64 (IntKind.u64.wrap (h * 2 ^ min (IntKind.u64.wrap (lzI y)).toNat 64)) (l.fdiv (2 ^ min (IntKind.u64.wrap (64 - IntKind.u64.wrap (lzI y))).toNat 64)) * 4294967296) + (IntKind.u64.wrap (l * 2 ^ min (IntKind.u64.wrap (lzI y)).toNat 64)).fdiv (2 ^ 32)) - IntKind.u64.wrap (s * IntKind.u64.wrap (y * 2 ^ min (IntKind.u64.wrap (lzI y)).toNat 64))))
 (andI IntKind.u64 (IntKind.u64.wrap (l * 2 ^ min (IntKind.u64.wrap (lzI y)).toNat 64)) 4294967295) s_3.fst s_3.snd ∧
 s_3.fst.toNat < s_2.fst.toNat))
 (∃ (s_3 : Int),
 (IntKind.u64.wrap (y * 2 ^ min (IntKind.u64.wrap (lzI y)).toNat 64) = IntKind.u64.wrap (y * 2 ^ min (IntKind.u64.wrap (lzI y)).toNat 64) ∧
 IntKind.u64.wrap (lzI y) = IntKind.u64.wrap (lzI y) ∧
 (IntKind.u64.wrap (y * 2 ^ min (IntKind.u64.wrap (lzI y)).toNat 64)).fdiv (2 ^ 32) = (IntKind.u64.wrap (y * 2 ^ min (IntKind.u64.wrap (lzI y)).toNat 64)).fdiv (2 ^ 32) ∧
 andI IntKind.u64 (IntKind.u64.wrap (y * 2 ^ min (IntKind.u64.wrap (lzI y)).toNat 64)) 4294967295 = andI IntKind.u64 (IntKind.u64.wrap (y * 2 ^ min (IntKind.u64.wrap (lzI y)).toNat 64)) 4294967295 ∧
 orI IntKind.u64 (IntKind.u64.wrap (h * 2 ^ min (IntKind.u64.wrap (lzI y)).toNat 64)) (l.fdiv (2 ^ min (IntKind.u64.wrap (64 - IntKind.u64.wrap (lzI y))).toNat 64)) = orI IntKind.u64 (IntKind.u64.wrap (h * 2 ^ min (IntKind.u64.wrap (lzI y)).toNat 64)) (l.fdiv (2 ^ min (IntKind.u64.wrap (64 - IntKind.u64.wrap (lzI y))).toNat 64)) ∧
 (IntKind.u64.wrap (l * 2 ^ min (IntKind.u64.wrap (lzI y)).toNat 64)).fdiv (2 ^ 32) = (IntKind.u64.wrap (l * 2 ^ min (IntKind.u64.wrap (lzI y)).toNat 64)).fdiv (2 ^ 32) ∧
 andI IntKind.u64 (IntKind.u64.wrap (l * 2 ^ min (IntKind.u64.wrap (lzI y)).toNat 64)) 4294967295 = andI IntKind.u64 (IntKind.u64.wrap (l * 2 ^ min (IntKind.u64.wrap (lzI y)).toNat 64)) 4294967295 ∧
 s = s ∧
 IntKind.u64.wrap
 (IntKind.u64.wrap (IntKind.u64.wrap (orI IntKind.u64 (IntKind.u64.wrap (h * 2 ^ min (IntKind.u64.wrap (lzI y)).toNat 64)) (l.fdiv (2 ^ min (IntKind.u64.wrap (64 - IntKind.u64.wrap (lzI y))).toNat 64)) * 4294967296) + (IntKind.u64.wrap (l * 2 ^ min (IntKind.u64.wrap (lzI y)).toNat 64)).fdiv (2 ^ 32)) - IntKind.u64.wrap (s * IntKind.u64.wrap (y * 2 ^ min (IntKind.u64.wrap (lzI y)).toNat 64))) =
 IntKind.u64.wrap
 (IntKind.u64.wrap (IntKind.u64.wrap (orI IntKind.u64 (IntKind.u64.wrap (h * 2 ^ min (IntKind.u64.wrap (lzI y)).toNat 64)) (l.fdiv (2 ^ min (IntKind.u64.wrap (64 - IntKind.u64.wrap (lzI y))).toNat 64)) * 4294967296) + (IntKind.u64.wrap (l * 2 ^ min (IntKind.u64.wrap (lzI y)).toNat 64)).fdiv (2 ^ 32)) - IntKind.u64.wrap (s * IntKind.u64.wrap (y * 2 ^ min (IntKind.u64.wrap (lzI y)).toNat 64))) ∧
 s_2.fst = s_3 ∧ True) ∧
 s_3 =
 digI ((IntKind.u64.wrap (y * 2 ^ min (IntKind.u64.wrap (lzI y)).toNat 64)).fdiv (2 ^ 32)) (andI IntKind.u64 (IntKind.u64.wrap (y * 2 ^ min (IntKind.u64.wrap (lzI y)).toNat 64)) 4294967295)
 (IntKind.u64.wrap
 (IntKind.u64.wrap (IntKind.u64.wrap (orI IntKind.u64 (IntKind.u64.wrap (h * 2 ^ min (IntKind.u64.wrap (lzI y)).toNat 64)) (l.fdiv (2 ^ min (IntKind.u64.wrap (64 - IntKind.u64.wrap (lzI y))).toNat 64)) * 4294967296) + (IntKind.u64.wrap (l * 2 ^ min (IntKind.u64.wrap (lzI y)).toNat 64)).fdiv (2 ^ 32)) - IntKind.u64.wrap (s * IntKind.u64.wrap (y * 2 ^ min (IntKind.u64.wrap (lzI y)).toNat 64))))
 (andI IntKind.u64 (IntKind.u64.wrap (l * 2 ^ min (IntKind.u64.wrap (lzI y)).toNat 64)) 4294967295))))) ∧
 ∃ (s : Int × Int),
 (IntKind.u64.wrap (y * 2 ^ min (IntKind.u64.wrap (lzI y)).toNat 64) = IntKind.u64.wrap (y * 2 ^ min (IntKind.u64.wrap (lzI y)).toNat 64) ∧
 IntKind.u64.wrap (lzI y) = IntKind.u64.wrap (lzI y) ∧
 (IntKind.u64.wrap (y * 2 ^ min (IntKind.u64.wrap (lzI y)).toNat 64)).fdiv (2 ^ 32) = (IntKind.u64.wrap (y * 2 ^ min (IntKind.u64.wrap (lzI y)).toNat 64)).fdiv (2 ^ 32) ∧
 andI IntKind.u64 (IntKind.u64.wrap (y * 2 ^ min (IntKind.u64.wrap (lzI y)).toNat 64)) 4294967295 = andI IntKind.u64 (IntKind.u64.wrap (y * 2 ^ min (IntKind.u64.wrap (lzI y)).toNat 64)) 4294967295 ∧
 orI IntKind.u64 (IntKind.u64.wrap (h * 2 ^ min (IntKind.u64.wrap (lzI y)).toNat 64)) (l.fdiv (2 ^ min (IntKind.u64.wrap (64 - IntKind.u64.wrap (lzI y))).toNat 64)) = orI IntKind.u64 (IntKind.u64.wrap (h * 2 ^ min (IntKind.u64.wrap (lzI y)).toNat 64)) (l.fdiv (2 ^ min (IntKind.u64.wrap (64 - IntKind.u64.wrap (lzI y))).toNat 64)) ∧
 (IntKind.u64.wrap (l * 2 ^ min (IntKind.u64.wrap (lzI y)).toNat 64)).fdiv (2 ^ 32) = (IntKind.u64.wrap (l * 2 ^ min (IntKind.u64.wrap (lzI y)).toNat 64)).fdiv (2 ^ 32) ∧
 andI IntKind.u64 (IntKind.u64.wrap (l * 2 ^ min (IntKind.u64.wrap (lzI y)).toNat 64)) 4294967295 = andI IntKind.u64 (IntKind.u64.wrap (l * 2 ^ min (IntKind.u64.wrap (lzI y)).toNat 64)) 4294967295 ∧
 IntKind.u64.wrap ((orI IntKind.u64 (IntKind.u64.wrap (h * 2 ^ min (IntKind.u64.wrap (lzI y)).toNat 64)) (l.fdiv (2 ^ min (IntKind.u64.wrap (64 - IntKind.u64.wrap (lzI y))).toNat 64))).tdiv ((IntKind.u64.wrap (y * 2 ^ min (IntKind.u64.wrap (lzI y)).toNat 64)).fdiv (2 ^ 32))) = s.fst ∧
 IntKind.u64.wrap
 (orI IntKind.u64 (IntKind.u64.wrap (h * 2 ^ min (IntKind.u64.wrap (lzI y)).toNat 64)) (l.fdiv (2 ^ min (IntKind.u64.wrap (64 - IntKind.u64.wrap (lzI y))).toNat 64)) -
 IntKind.u64.wrap (IntKind.u64.wrap ((orI IntKind.u64 (IntKind.u64.wrap (h * 2 ^ min (IntKind.u64.wrap (lzI y)).toNat 64)) (l.fdiv (2 ^ min (IntKind.u64.wrap (64 - IntKind.u64.wrap (lzI y))).toNat 64))).tdiv ((IntKind.u64.wrap (y * 2 ^ min (IntKind.u64.wrap (lzI y)).toNat 64)).fdiv (2 ^ 32))) * (IntKind.u64.wrap (y * 2 ^ min (IntKind.u64.wrap (lzI y)).toNat 64)).fdiv (2 ^ 32))) =
 s.snd ∧
 Value.tuple #[] = Value.tuple #[] ∧ True) ∧
 Dig ((IntKind.u64.wrap (y * 2 ^ min (IntKind.u64.wrap (lzI y)).toNat 64)).fdiv (2 ^ 32)) (andI IntKind.u64 (IntKind.u64.wrap (y * 2 ^ min (IntKind.u64.wrap (lzI y)).toNat 64)) 4294967295) (orI IntKind.u64 (IntKind.u64.wrap (h * 2 ^ min (IntKind.u64.wrap (lzI y)).toNat 64)) (l.fdiv (2 ^ min (IntKind.u64.wrap (64 - IntKind.u64.wrap (lzI y))).toNat 64)))
 ((IntKind.u64.wrap (l * 2 ^ min (IntKind.u64.wrap (lzI y)).toNat 64)).fdiv (2 ^ 32)) s.fst s.snd ∧
 ∀ (s : Int × Int),
 Dig ((IntKind.u64.wrap (y * 2 ^ min (IntKind.u64.wrap (lzI y)).toNat 64)).fdiv (2 ^ 32)) (andI IntKind.u64 (IntKind.u64.wrap (y * 2 ^ min (IntKind.u64.wrap (lzI y)).toNat 64)) 4294967295) (orI IntKind.u64 (IntKind.u64.wrap (h * 2 ^ min (IntKind.u64.wrap (lzI y)).toNat 64)) (l.fdiv (2 ^ min (IntKind.u64.wrap (64 - IntKind.u64.wrap (lzI y))).toNat 64)))
 ((IntKind.u64.wrap (l * 2 ^ min (IntKind.u64.wrap (lzI y)).toNat 64)).fdiv (2 ^ 32)) s.fst s.snd →
 bcase (decide (s.fst ≥ 4294967296))
 (bcase (decide (IntKind.u64.wrap (s.snd + (IntKind.u64.wrap (y * 2 ^ min (IntKind.u64.wrap (lzI y)).toNat 64)).fdiv (2 ^ 32)) ≥ 4294967296))
 (∃ (s_1 : Int),
 (IntKind.u64.wrap (y * 2 ^ min (IntKind.u64.wrap (lzI y)).toNat 64) = IntKind.u64.wrap (y * 2 ^ min (IntKind.u64.wrap (lzI y)).toNat 64) ∧
 IntKind.u64.wrap (lzI y) = IntKind.u64.wrap (lzI y) ∧
 (IntKind.u64.wrap (y * 2 ^ min (IntKind.u64.wrap (lzI y)).toNat 64)).fdiv (2 ^ 32) = (IntKind.u64.wrap (y * 2 ^ min (IntKind.u64.wrap (lzI y)).toNat 64)).fdiv (2 ^ 32) ∧
 andI IntKind.u64 (IntKind.u64.wrap (y * 2 ^ min (IntKind.u64.wrap (lzI y)).toNat 64)) 4294967295 = andI IntKind.u64 (IntKind.u64.wrap (y * 2 ^ min (IntKind.u64.wrap (lzI y)).toNat 64)) 4294967295 ∧
 orI IntKind.u64 (IntKind.u64.wrap (h * 2 ^ min (IntKind.u64.wrap (lzI y)).toNat 64)) (l.fdiv (2 ^ min (IntKind.u64.wrap (64 - IntKind.u64.wrap (lzI y))).toNat 64)) = orI IntKind.u64 (IntKind.u64.wrap (h * 2 ^ min (IntKind.u64.wrap (lzI y)).toNat 64)) (l.fdiv (2 ^ min (IntKind.u64.wrap (64 - IntKind.u64.wrap (lzI y))).toNat 64)) ∧
 (IntKind.u64.wrap (l * 2 ^ min (IntKind.u64.wrap (lzI y)).toNat 64)).fdiv (2 ^ 32) = (IntKind.u64.wrap (l * 2 ^ min (IntKind.u64.wrap (lzI y)).toNat 64)).fdiv (2 ^ 32) ∧
 andI IntKind.u64 (IntKind.u64.wrap (l * 2 ^ min (IntKind.u64.wrap (lzI y)).toNat 64)) 4294967295 = andI IntKind.u64 (IntKind.u64.wrap (l * 2 ^ min (IntKind.u64.wrap (lzI y)).toNat 64)) 4294967295 ∧ IntKind.u64.wrap (s.fst - 1) = s_1 ∧ Value.tuple #[] = Value.tuple #[] ∧ True) ∧
 s_1 =
 digI ((IntKind.u64.wrap (y * 2 ^ min (IntKind.u64.wrap (lzI y)).toNat 64)).fdiv (2 ^ 32)) (andI IntKind.u64 (IntKind.u64.wrap (y * 2 ^ min (IntKind.u64.wrap (lzI y)).toNat 64)) 4294967295) (orI IntKind.u64 (IntKind.u64.wrap (h * 2 ^ min (IntKind.u64.wrap (lzI y)).toNat 64)) (l.fdiv (2 ^ min (IntKind.u64.wrap (64 - IntKind.u64.wrap (lzI y))).toNat 64)))
 ((IntKind.u64.wrap (l * 2 ^ min (IntKind.u64.wrap (lzI y)).toNat 64)).fdiv (2 ^ 32)))
 (∃ (s_1 : Int × Int),
 (IntKind.u64.wrap (y * 2 ^ min (IntKind.u64.wrap (lzI y)).toNat 64) = IntKind.u64.wrap (y * 2 ^ min (IntKind.u64.wrap (lzI y)).toNat 64) ∧
 IntKind.u64.wrap (lzI y) = IntKind.u64.wrap (lzI y) ∧
 (IntKind.u64.wrap (y * 2 ^ min (IntKind.u64.wrap (lzI y)).toNat 64)).fdiv (2 ^ 32) = (IntKind.u64.wrap (y * 2 ^ min (IntKind.u64.wrap (lzI y)).toNat 64)).fdiv (2 ^ 32) ∧
 andI IntKind.u64 (IntKind.u64.wrap (y * 2 ^ min (IntKind.u64.wrap (lzI y)).toNat 64)) 4294967295 = andI IntKind.u64 (IntKind.u64.wrap (y * 2 ^ min (IntKind.u64.wrap (lzI y)).toNat 64)) 4294967295 ∧
 orI IntKind.u64 (IntKind.u64.wrap (h * 2 ^ min (IntKind.u64.wrap (lzI y)).toNat 64)) (l.fdiv (2 ^ min (IntKind.u64.wrap (64 - IntKind.u64.wrap (lzI y))).toNat 64)) = orI IntKind.u64 (IntKind.u64.wrap (h * 2 ^ min (IntKind.u64.wrap (lzI y)).toNat 64)) (l.fdiv (2 ^ min (IntKind.u64.wrap (64 - IntKind.u64.wrap (lzI y))).toNat 64)) ∧
 (IntKind.u64.wrap (l * 2 ^ min (IntKind.u64.wrap (lzI y)).toNat 64)).fdiv (2 ^ 32) = (IntKind.u64.wrap (l * 2 ^ min (IntKind.u64.wrap (lzI y)).toNat 64)).fdiv (2 ^ 32) ∧
 andI IntKind.u64 (IntKind.u64.wrap (l * 2 ^ min (IntKind.u64.wrap (lzI y)).toNat 64)) 4294967295 = andI IntKind.u64 (IntKind.u64.wrap (l * 2 ^ min (IntKind.u64.wrap (lzI y)).toNat 64)) 4294967295 ∧
 IntKind.u64.wrap (s.fst - 1) = s_1.fst ∧ IntKind.u64.wrap (s.snd + (IntKind.u64.wrap (y * 2 ^ min (IntKind.u64.wrap (lzI y)).toNat 64)).fdiv (2 ^ 32)) = s_1.snd ∧ Value.tuple #[] = Value.tuple #[] ∧ True) ∧
 Dig ((IntKind.u64.wrap (y * 2 ^ min (IntKind.u64.wrap (lzI y)).toNat 64)).fdiv (2 ^ 32)) (andI IntKind.u64 (IntKind.u64.wrap (y * 2 ^ min (IntKind.u64.wrap (lzI y)).toNat 64)) 4294967295) (orI IntKind.u64 (IntKind.u64.wrap (h * 2 ^ min (IntKind.u64.wrap (lzI y)).toNat 64)) (l.fdiv (2 ^ min (IntKind.u64.wrap (64 - IntKind.u64.wrap (lzI y))).toNat 64)))
 ((IntKind.u64.wrap (l * 2 ^ min (IntKind.u64.wrap (lzI y)).toNat 64)).fdiv (2 ^ 32)) s_1.fst s_1.snd ∧
 s_1.fst.toNat < s.fst.toNat))
 (bcase (decide (IntKind.u64.wrap (s.fst * andI IntKind.u64 (IntKind.u64.wrap (y * 2 ^ min (IntKind.u64.wrap (lzI y)).toNat 64)) 4294967295) > IntKind.u64.wrap (IntKind.u64.wrap (4294967296 * s.snd) + (IntKind.u64.wrap (l * 2 ^ min (IntKind.u64.wrap (lzI y)).toNat 64)).fdiv (2 ^ 32))))
 (bcase (decide (IntKind.u64.wrap (s.snd + (IntKind.u64.wrap (y * 2 ^ min (IntKind.u64.wrap (lzI y)).toNat 64)).fdiv (2 ^ 32)) ≥ 4294967296))
 (∃ (s_1 : Int),
 (IntKind.u64.wrap (y * 2 ^ min (IntKind.u64.wrap (lzI y)).toNat 64) = IntKind.u64.wrap (y * 2 ^ min (IntKind.u64.wrap (lzI y)).toNat 64) ∧
 IntKind.u64.wrap (lzI y) = IntKind.u64.wrap (lzI y) ∧
 (IntKind.u64.wrap (y * 2 ^ min (IntKind.u64.wrap (lzI y)).toNat 64)).fdiv (2 ^ 32) = (IntKind.u64.wrap (y * 2 ^ min (IntKind.u64.wrap (lzI y)).toNat 64)).fdiv (2 ^ 32) ∧
 andI IntKind.u64 (IntKind.u64.wrap (y * 2 ^ min (IntKind.u64.wrap (lzI y)).toNat 64)) 4294967295 = andI IntKind.u64 (IntKind.u64.wrap (y * 2 ^ min (IntKind.u64.wrap (lzI y)).toNat 64)) 4294967295 ∧
 orI IntKind.u64 (IntKind.u64.wrap (h * 2 ^ min (IntKind.u64.wrap (lzI y)).toNat 64)) (l.fdiv (2 ^ min (IntKind.u64.wrap (64 - IntKind.u64.wrap (lzI y))).toNat 64)) = orI IntKind.u64 (IntKind.u64.wrap (h * 2 ^ min (IntKind.u64.wrap (lzI y)).toNat 64)) (l.fdiv (2 ^ min (IntKind.u64.wrap (64 - IntKind.u64.wrap (lzI y))).toNat 64)) ∧
 (IntKind.u64.wrap (l * 2 ^ min (IntKind.u64.wrap (lzI y)).toNat 64)).fdiv (2 ^ 32) = (IntKind.u64.wrap (l * 2 ^ min (IntKind.u64.wrap (lzI y)).toNat 64)).fdiv (2 ^ 32) ∧
 andI IntKind.u64 (IntKind.u64.wrap (l * 2 ^ min (IntKind.u64.wrap (lzI y)).toNat 64)) 4294967295 = andI IntKind.u64 (IntKind.u64.wrap (l * 2 ^ min (IntKind.u64.wrap (lzI y)).toNat 64)) 4294967295 ∧ IntKind.u64.wrap (s.fst - 1) = s_1 ∧ Value.tuple #[] = Value.tuple #[] ∧ True) ∧
 s_1 =
 digI ((IntKind.u64.wrap (y * 2 ^ min (IntKind.u64.wrap (lzI y)).toNat 64)).fdiv (2 ^ 32)) (andI IntKind.u64 (IntKind.u64.wrap (y * 2 ^ min (IntKind.u64.wrap (lzI y)).toNat 64)) 4294967295) (orI IntKind.u64 (IntKind.u64.wrap (h * 2 ^ min (IntKind.u64.wrap (lzI y)).toNat 64)) (l.fdiv (2 ^ min (IntKind.u64.wrap (64 - IntKind.u64.wrap (lzI y))).toNat 64)))
 ((IntKind.u64.wrap (l * 2 ^ min (IntKind.u64.wrap (lzI y)).toNat 64)).fdiv (2 ^ 32)))
 (∃ (s_1 : Int × Int),
 (IntKind.u64.wrap (y * 2 ^ min (IntKind.u64.wrap (lzI y)).toNat 64) = IntKind.u64.wrap (y * 2 ^ min (IntKind.u64.wrap (lzI y)).toNat 64) ∧
 IntKind.u64.wrap (lzI y) = IntKind.u64.wrap (lzI y) ∧
 (IntKind.u64.wrap (y * 2 ^ min (IntKind.u64.wrap (lzI y)).toNat 64)).fdiv (2 ^ 32) = (IntKind.u64.wrap (y * 2 ^ min (IntKind.u64.wrap (lzI y)).toNat 64)).fdiv (2 ^ 32) ∧
 andI IntKind.u64 (IntKind.u64.wrap (y * 2 ^ min (IntKind.u64.wrap (lzI y)).toNat 64)) 4294967295 = andI IntKind.u64 (IntKind.u64.wrap (y * 2 ^ min (IntKind.u64.wrap (lzI y)).toNat 64)) 4294967295 ∧
 orI IntKind.u64 (IntKind.u64.wrap (h * 2 ^ min (IntKind.u64.wrap (lzI y)).toNat 64)) (l.fdiv (2 ^ min (IntKind.u64.wrap (64 - IntKind.u64.wrap (lzI y))).toNat 64)) = orI IntKind.u64 (IntKind.u64.wrap (h * 2 ^ min (IntKind.u64.wrap (lzI y)).toNat 64)) (l.fdiv (2 ^ min (IntKind.u64.wrap (64 - IntKind.u64.wrap (lzI y))).toNat 64)) ∧
 (IntKind.u64.wrap (l * 2 ^ min (IntKind.u64.wrap (lzI y)).toNat 64)).fdiv (2 ^ 32) = (IntKind.u64.wrap (l * 2 ^ min (IntKind.u64.wrap (lzI y)).toNat 64)).fdiv (2 ^ 32) ∧
 andI IntKind.u64 (IntKind.u64.wrap (l * 2 ^ min (IntKind.u64.wrap (lzI y)).toNat 64)) 4294967295 = andI IntKind.u64 (IntKind.u64.wrap (l * 2 ^ min (IntKind.u64.wrap (lzI y)).toNat 64)) 4294967295 ∧
 IntKind.u64.wrap (s.fst - 1) = s_1.fst ∧ IntKind.u64.wrap (s.snd + (IntKind.u64.wrap (y * 2 ^ min (IntKind.u64.wrap (lzI y)).toNat 64)).fdiv (2 ^ 32)) = s_1.snd ∧ Value.tuple #[] = Value.tuple #[] ∧ True) ∧
 Dig ((IntKind.u64.wrap (y * 2 ^ min (IntKind.u64.wrap (lzI y)).toNat 64)).fdiv (2 ^ 32)) (andI IntKind.u64 (IntKind.u64.wrap (y * 2 ^ min (IntKind.u64.wrap (lzI y)).toNat 64)) 4294967295) (orI IntKind.u64 (IntKind.u64.wrap (h * 2 ^ min (IntKind.u64.wrap (lzI y)).toNat 64)) (l.fdiv (2 ^ min (IntKind.u64.wrap (64 - IntKind.u64.wrap (lzI y))).toNat 64)))
 ((IntKind.u64.wrap (l * 2 ^ min (IntKind.u64.wrap (lzI y)).toNat 64)).fdiv (2 ^ 32)) s_1.fst s_1.snd ∧
 s_1.fst.toNat < s.fst.toNat))
 (∃ (s_1 : Int),
 (IntKind.u64.wrap (y * 2 ^ min (IntKind.u64.wrap (lzI y)).toNat 64) = IntKind.u64.wrap (y * 2 ^ min (IntKind.u64.wrap (lzI y)).toNat 64) ∧
 IntKind.u64.wrap (lzI y) = IntKind.u64.wrap (lzI y) ∧
 (IntKind.u64.wrap (y * 2 ^ min (IntKind.u64.wrap (lzI y)).toNat 64)).fdiv (2 ^ 32) = (IntKind.u64.wrap (y * 2 ^ min (IntKind.u64.wrap (lzI y)).toNat 64)).fdiv (2 ^ 32) ∧
 andI IntKind.u64 (IntKind.u64.wrap (y * 2 ^ min (IntKind.u64.wrap (lzI y)).toNat 64)) 4294967295 = andI IntKind.u64 (IntKind.u64.wrap (y * 2 ^ min (IntKind.u64.wrap (lzI y)).toNat 64)) 4294967295 ∧
 orI IntKind.u64 (IntKind.u64.wrap (h * 2 ^ min (IntKind.u64.wrap (lzI y)).toNat 64)) (l.fdiv (2 ^ min (IntKind.u64.wrap (64 - IntKind.u64.wrap (lzI y))).toNat 64)) = orI IntKind.u64 (IntKind.u64.wrap (h * 2 ^ min (IntKind.u64.wrap (lzI y)).toNat 64)) (l.fdiv (2 ^ min (IntKind.u64.wrap (64 - IntKind.u64.wrap (lzI y))).toNat 64)) ∧
 (IntKind.u64.wrap (l * 2 ^ min (IntKind.u64.wrap (lzI y)).toNat 64)).fdiv (2 ^ 32) = (IntKind.u64.wrap (l * 2 ^ min (IntKind.u64.wrap (lzI y)).toNat 64)).fdiv (2 ^ 32) ∧
 andI IntKind.u64 (IntKind.u64.wrap (l * 2 ^ min (IntKind.u64.wrap (lzI y)).toNat 64)) 4294967295 = andI IntKind.u64 (IntKind.u64.wrap (l * 2 ^ min (IntKind.u64.wrap (lzI y)).toNat 64)) 4294967295 ∧ s.fst = s_1 ∧ Value.tuple #[] = Value.tuple #[] ∧ True) ∧
 s_1 =
 digI ((IntKind.u64.wrap (y * 2 ^ min (IntKind.u64.wrap (lzI y)).toNat 64)).fdiv (2 ^ 32)) (andI IntKind.u64 (IntKind.u64.wrap (y * 2 ^ min (IntKind.u64.wrap (lzI y)).toNat 64)) 4294967295) (orI IntKind.u64 (IntKind.u64.wrap (h * 2 ^ min (IntKind.u64.wrap (lzI y)).toNat 64)) (l.fdiv (2 ^ min (IntKind.u64.wrap (64 - IntKind.u64.wrap (lzI y))).toNat 64)))
 ((IntKind.u64.wrap (l * 2 ^ min (IntKind.u64.wrap (lzI y)).toNat 64)).fdiv (2 ^ 32))))))))))))) := by kernel_rfl
end Go.Proofs.YtjdcicjhpegphaaGreat
/- The plain law of a division by digits. No program is in sight here. -/
namespace Go.Proofs.YtjdcicjhpegphaaGreat
open Go Go.Abs Go.RowKit
structure DigIn (yn1 yn0 un u1 : Int) : Prop where
  a0 : 2147483648 ≤ yn1
  a1 : yn1 < 4294967296
  b0 : 0 ≤ yn0
  b1 : yn0 < 4294967296
  c0 : 0 ≤ un
  c1 : un < yn1 * 4294967296 + yn0
  d0 : 0 ≤ u1
  d1 : u1 < 4294967296
theorem Dig.start {yn1 yn0 un u1 : Int} (h : DigIn yn1 yn0 un u1) : Dig yn1 yn0 un u1 (un / yn1) (un - un / yn1 * yn1) := by
  obtain ⟨a0, a1, b0, b1, c0, c1, d0, d1⟩ := h
  have e1 := Int.emod_nonneg un (show yn1 ≠ 0 by omega)
  have e2 := Int.emod_lt_of_pos un (show 0 < yn1 by omega)
  have e3 := Int.mul_ediv_add_emod un yn1
  have hq : 0 ≤ un / yn1 := Int.ediv_nonneg c0 (by omega)
  generalize un / yn1 = q at *
  generalize un % yn1 = r at *
  have hr : un - q * yn1 = r := by grind
  rw [hr]
  have hq1 : q ≤ 4294967297 := by
    rcases Int.lt_or_le q 4294967298 with h | h
    · omega
    · have := Int.mul_le_mul_of_nonneg_left h (show 0 ≤ yn1 by omega)
      omega
  refine ⟨by grind, e1, by omega, hq, hq1, ?_⟩
  have hu : un + 1 ≤ (q + 1) * yn1 := by grind
  have h1 := Int.mul_le_mul_of_nonneg_right hu (show (0 : Int) ≤ 4294967296 by decide)
  have h2 : 0 ≤ (q + 1) * yn0 := Int.mul_nonneg (by omega) b0
  grind
theorem Dig.less {yn1 yn0 un u1 q r : Int} (h : DigIn yn1 yn0 un u1) (d : Dig yn1 yn0 un u1 q r) (hc : q ≥ 4294967296 ∨ q * yn0 > 4294967296 * r + u1) :
    (q - 1) * yn1 + (r + yn1) = un ∧ 0 ≤ q - 1 ∧ q - 1 ≤ 4294967296 ∧ un * 4294967296 + u1 < (q - 1 + 1) * (yn1 * 4294967296 + yn0) := by
  obtain ⟨a0, a1, b0, b1, c0, c1, d0, d1⟩ := h
  obtain ⟨s, r0, r1, q0, q1, l⟩ := d
  have hk : un * 4294967296 + u1 < q * (yn1 * 4294967296 + yn0) := by
    rcases hc with hc | hc
    · have h1 := Int.mul_le_mul_of_nonneg_right hc (show 0 ≤ yn1 * 4294967296 + yn0 by omega)
      grind
    · grind
  refine ⟨by grind, ?_, by omega, by rw [show q - 1 + 1 = q by omega]; exact hk⟩
  rcases Int.lt_or_le 0 q with h | h
  · omega
  · have : q = 0 := by omega
    subst this
    omega
theorem digit_eq {yn1 yn0 un u1 q r : Int} (h : DigIn yn1 yn0 un u1) (sum : q * yn1 + r = un) (least : un * 4294967296 + u1 < (q + 1) * (yn1 * 4294967296 + yn0)) (hq : q * yn0 ≤ 4294967296 * r + u1) :
    (un * 4294967296 + u1) / (yn1 * 4294967296 + yn0) = q := by
  obtain ⟨a0, a1, b0, b1, c0, c1, d0, d1⟩ := h
  have hy : 0 < yn1 * 4294967296 + yn0 := by omega
  have h1 : q * (yn1 * 4294967296 + yn0) ≤ un * 4294967296 + u1 := by grind
  generalize yn1 * 4294967296 + yn0 = y at *
  generalize un * 4294967296 + u1 = n at *
  apply Int.le_antisymm
  · have := Int.ediv_lt_of_lt_mul hy least
    omega
  · exact (Int.le_ediv_iff_mul_le hy).2 h1
theorem Dig.done {yn1 yn0 un u1 q r : Int} (h : DigIn yn1 yn0 un u1) (d : Dig yn1 yn0 un u1 q r) (hq : q * yn0 ≤ 4294967296 * r + u1) :
    (un * 4294967296 + u1) / (yn1 * 4294967296 + yn0) = q := digit_eq h d.sum d.least hq
theorem Dig.stop {yn1 yn0 un u1 q r : Int} (h : DigIn yn1 yn0 un u1) (d : Dig yn1 yn0 un u1 q r) (hc : q ≥ 4294967296 ∨ q * yn0 > 4294967296 * r + u1) (hr : r + yn1 ≥ 4294967296) :
    (un * 4294967296 + u1) / (yn1 * 4294967296 + yn0) = q - 1 := by
  obtain ⟨s, k0, k1, l⟩ := d.less h hc
  refine digit_eq h s l ?_
  obtain ⟨a0, a1, b0, b1, c0, c1, d0, d1⟩ := h
  have h1 := Int.mul_le_mul k1 (show yn0 ≤ 4294967295 by omega) b0 (by decide)
  have h2 := Int.mul_le_mul_of_nonneg_left hr (show (0 : Int) ≤ 4294967296 by decide)
  omega
theorem Dig.next {yn1 yn0 un u1 q r : Int} (h : DigIn yn1 yn0 un u1) (d : Dig yn1 yn0 un u1 q r) (hc : q ≥ 4294967296 ∨ q * yn0 > 4294967296 * r + u1) (hr : r + yn1 < 4294967296) :
    Dig yn1 yn0 un u1 (q - 1) (r + yn1) := by
  obtain ⟨s, k0, k1, l⟩ := d.less h hc
  obtain ⟨a0, a1, b0, b1, c0, c1, d0, d1⟩ := h
  obtain ⟨s', r0, r1, q0, q1, l'⟩ := d
  exact ⟨s, by omega, hr, k0, by omega, l⟩
theorem norm_div {V y p : Int} (hp : 0 < p) : V * p / (y * p) = V / y := Int.mul_ediv_mul_of_pos_left _ _ hp
theorem norm_mod {V y p : Int} (hp : 0 < p) : V * p % (y * p) / p = V % y := by
  have h1 := Int.emod_def (V * p) (y * p)
  rw [norm_div hp] at h1
  have h2 := Int.emod_def V y
  have : V * p % (y * p) = V % y * p := by rw [h1, h2]; grind
  rw [this, Int.mul_ediv_cancel _ (by omega)]
theorem two_digits {Y un u1 u0 q1 q0 : Int} (hY : 0 < Y) (h1 : q1 = (un * 4294967296 + u1) / Y) (h0 : q0 = ((un * 4294967296 + u1 - q1 * Y) * 4294967296 + u0) / Y) :
    (un * 18446744073709551616 + u1 * 4294967296 + u0) / Y = q1 * 4294967296 + q0 ∧
    (un * 18446744073709551616 + u1 * 4294967296 + u0) % Y = (un * 4294967296 + u1 - q1 * Y) * 4294967296 + u0 - q0 * Y := by
  have e0 := Int.emod_def ((un * 4294967296 + u1 - q1 * Y) * 4294967296 + u0) Y
  rw [← h0] at e0
  have b0 := Int.emod_nonneg ((un * 4294967296 + u1 - q1 * Y) * 4294967296 + u0) (show Y ≠ 0 by omega)
  have b1 := Int.emod_lt_of_pos ((un * 4294967296 + u1 - q1 * Y) * 4294967296 + u0) hY
  rw [e0] at b0 b1
  have hd : (un * 18446744073709551616 + u1 * 4294967296 + u0) / Y = q1 * 4294967296 + q0 := by
    have e : un * 18446744073709551616 + u1 * 4294967296 + u0 = ((un * 4294967296 + u1 - q1 * Y) * 4294967296 + u0 - Y * q0) + (q1 * 4294967296 + q0) * Y := by grind
    rw [e, Int.add_mul_ediv_right _ _ (by omega), Int.ediv_eq_zero_of_lt b0 b1]
    omega
  refine ⟨hd, ?_⟩
  rw [Int.emod_def, hd]
  grind
end Go.Proofs.YtjdcicjhpegphaaGreat
/- What the functions of wide ask. -/
namespace Go.Proofs.YtjdcicjhpegphaaGreat
open Go Go.Abs Go.RowKit
theorem vc_wvalid (a b : Int) (K : Value → Prop) : callsX Tryz.prog ([]) (noAnn) 181 [wid a b] K = (
 bcase (decide (a ≥ -1152921504606846976)) (bcase (decide (a < 1152921504606846976)) (bcase (decide (b ≥ 0)) (K (Value.bool (decide (b < 1152921504606846976)))) (K (Value.bool false))) (K (Value.bool false))) (K (Value.bool false))) := by kernel_rfl
theorem vc_wfit (a b : Int) (K : Value → Prop) : callsX Tryz.prog (ΓV) (noAnn) 180 [num a, num b] K = (
 True ∧
 bcase (!decide (WV (IntKind.i64.wrap (a + b.fdiv (2 ^ 60))) (andI IntKind.i64 b 1152921504606846975))) (K (Value.tuple #[Value.agg #[Value.int IntKind.i64 0, Value.int IntKind.i64 0], Value.int IntKind.i64 5])) (K (Value.tuple #[Value.agg #[Value.int IntKind.i64 (IntKind.i64.wrap (a + b.fdiv (2 ^ 60))), Value.int IntKind.i64 (andI IntKind.i64 b 1152921504606846975)], Value.int IntKind.i64 0]))) := by kernel_rfl
theorem vc_wabs (n : Int) (K : Value → Prop) : callsX Tryz.prog ([]) (noAnn) 167 [num n] K = (
 bcase (decide (n < 0)) (K (Value.int IntKind.u64 (IntKind.u64.wrap (0 - IntKind.u64.wrap n)))) (K (Value.int IntKind.u64 (IntKind.u64.wrap n)))) := by kernel_rfl
theorem vc_wsizeof (a b : Int) (K : Value → Prop) : callsX Tryz.prog ([]) (noAnn) 182 [wid a b] K = (
 bcase (decide (a < 0))
 (K
 (Value.agg
 #[Value.int IntKind.u64 ((IntKind.u64.wrap (IntKind.i64.wrap (IntKind.i64.wrap (0 - a) + (IntKind.i64.wrap (0 - b)).fdiv (2 ^ 60)))).fdiv (2 ^ 4)),
 Value.int IntKind.u64 (orI IntKind.u64 (IntKind.u64.wrap (IntKind.u64.wrap (IntKind.i64.wrap (IntKind.i64.wrap (0 - a) + (IntKind.i64.wrap (0 - b)).fdiv (2 ^ 60))) * 2 ^ 60)) (IntKind.u64.wrap (andI IntKind.i64 (IntKind.i64.wrap (0 - b)) 1152921504606846975))), Value.bool (decide (a < 0))]))
 (K (Value.agg #[Value.int IntKind.u64 ((IntKind.u64.wrap a).fdiv (2 ^ 4)), Value.int IntKind.u64 (orI IntKind.u64 (IntKind.u64.wrap (IntKind.u64.wrap a * 2 ^ 60)) (IntKind.u64.wrap b)), Value.bool (decide (a < 0))]))) := by kernel_rfl
theorem vc_wwide (a b : Int) (n : Bool) (K : Value → Prop) : callsX Tryz.prog (ΓF) (noAnn) 168 [siz a b n] K = (
 bcase (decide (a > 72057594037927936)) (K (Value.tuple #[Value.agg #[Value.int IntKind.i64 0, Value.int IntKind.i64 0], Value.int IntKind.i64 5]))
 (bcase (a == 72057594037927936)
 (bcase (decide (b > 0)) (K (Value.tuple #[Value.agg #[Value.int IntKind.i64 0, Value.int IntKind.i64 0], Value.int IntKind.i64 5]))
 (bcase (!n) (K (Value.tuple #[Value.agg #[Value.int IntKind.i64 0, Value.int IntKind.i64 0], Value.int IntKind.i64 5]))
 (bcase n
 ((Small (IntKind.i64.wrap (0 - IntKind.i64.wrap (orI IntKind.u64 (IntKind.u64.wrap (a * 2 ^ 4)) (b.fdiv (2 ^ 60))))) ∧ Small (IntKind.i64.wrap (0 - IntKind.i64.wrap (andI IntKind.u64 b 1152921504606846975)))) ∧
 K
 (Value.tuple
 #[Value.agg
 #[Value.int IntKind.i64
 (gate (F120 (val (IntKind.i64.wrap (0 - IntKind.i64.wrap (orI IntKind.u64 (IntKind.u64.wrap (a * 2 ^ 4)) (b.fdiv (2 ^ 60))))) (IntKind.i64.wrap (0 - IntKind.i64.wrap (andI IntKind.u64 b 1152921504606846975)))))
 (hiO (val (IntKind.i64.wrap (0 - IntKind.i64.wrap (orI IntKind.u64 (IntKind.u64.wrap (a * 2 ^ 4)) (b.fdiv (2 ^ 60))))) (IntKind.i64.wrap (0 - IntKind.i64.wrap (andI IntKind.u64 b 1152921504606846975)))))),
 Value.int IntKind.i64
 (gate (F120 (val (IntKind.i64.wrap (0 - IntKind.i64.wrap (orI IntKind.u64 (IntKind.u64.wrap (a * 2 ^ 4)) (b.fdiv (2 ^ 60))))) (IntKind.i64.wrap (0 - IntKind.i64.wrap (andI IntKind.u64 b 1152921504606846975)))))
 (loO (val (IntKind.i64.wrap (0 - IntKind.i64.wrap (orI IntKind.u64 (IntKind.u64.wrap (a * 2 ^ 4)) (b.fdiv (2 ^ 60))))) (IntKind.i64.wrap (0 - IntKind.i64.wrap (andI IntKind.u64 b 1152921504606846975))))))],
 Value.int IntKind.i64 (pick (F120 (val (IntKind.i64.wrap (0 - IntKind.i64.wrap (orI IntKind.u64 (IntKind.u64.wrap (a * 2 ^ 4)) (b.fdiv (2 ^ 60))))) (IntKind.i64.wrap (0 - IntKind.i64.wrap (andI IntKind.u64 b 1152921504606846975))))) 0 5)]))
 ((Small (IntKind.i64.wrap (orI IntKind.u64 (IntKind.u64.wrap (a * 2 ^ 4)) (b.fdiv (2 ^ 60)))) ∧ Small (IntKind.i64.wrap (andI IntKind.u64 b 1152921504606846975))) ∧
 K
 (Value.tuple
 #[Value.agg
 #[Value.int IntKind.i64 (gate (F120 (val (IntKind.i64.wrap (orI IntKind.u64 (IntKind.u64.wrap (a * 2 ^ 4)) (b.fdiv (2 ^ 60)))) (IntKind.i64.wrap (andI IntKind.u64 b 1152921504606846975)))) (hiO (val (IntKind.i64.wrap (orI IntKind.u64 (IntKind.u64.wrap (a * 2 ^ 4)) (b.fdiv (2 ^ 60)))) (IntKind.i64.wrap (andI IntKind.u64 b 1152921504606846975))))),
 Value.int IntKind.i64 (gate (F120 (val (IntKind.i64.wrap (orI IntKind.u64 (IntKind.u64.wrap (a * 2 ^ 4)) (b.fdiv (2 ^ 60)))) (IntKind.i64.wrap (andI IntKind.u64 b 1152921504606846975)))) (loO (val (IntKind.i64.wrap (orI IntKind.u64 (IntKind.u64.wrap (a * 2 ^ 4)) (b.fdiv (2 ^ 60)))) (IntKind.i64.wrap (andI IntKind.u64 b 1152921504606846975)))))],
 Value.int IntKind.i64 (pick (F120 (val (IntKind.i64.wrap (orI IntKind.u64 (IntKind.u64.wrap (a * 2 ^ 4)) (b.fdiv (2 ^ 60)))) (IntKind.i64.wrap (andI IntKind.u64 b 1152921504606846975)))) 0 5)])))))
 (bcase n
 ((Small (IntKind.i64.wrap (0 - IntKind.i64.wrap (orI IntKind.u64 (IntKind.u64.wrap (a * 2 ^ 4)) (b.fdiv (2 ^ 60))))) ∧ Small (IntKind.i64.wrap (0 - IntKind.i64.wrap (andI IntKind.u64 b 1152921504606846975)))) ∧
 K
 (Value.tuple
 #[Value.agg
 #[Value.int IntKind.i64
 (gate (F120 (val (IntKind.i64.wrap (0 - IntKind.i64.wrap (orI IntKind.u64 (IntKind.u64.wrap (a * 2 ^ 4)) (b.fdiv (2 ^ 60))))) (IntKind.i64.wrap (0 - IntKind.i64.wrap (andI IntKind.u64 b 1152921504606846975)))))
 (hiO (val (IntKind.i64.wrap (0 - IntKind.i64.wrap (orI IntKind.u64 (IntKind.u64.wrap (a * 2 ^ 4)) (b.fdiv (2 ^ 60))))) (IntKind.i64.wrap (0 - IntKind.i64.wrap (andI IntKind.u64 b 1152921504606846975)))))),
 Value.int IntKind.i64
 (gate (F120 (val (IntKind.i64.wrap (0 - IntKind.i64.wrap (orI IntKind.u64 (IntKind.u64.wrap (a * 2 ^ 4)) (b.fdiv (2 ^ 60))))) (IntKind.i64.wrap (0 - IntKind.i64.wrap (andI IntKind.u64 b 1152921504606846975)))))
 (loO (val (IntKind.i64.wrap (0 - IntKind.i64.wrap (orI IntKind.u64 (IntKind.u64.wrap (a * 2 ^ 4)) (b.fdiv (2 ^ 60))))) (IntKind.i64.wrap (0 - IntKind.i64.wrap (andI IntKind.u64 b 1152921504606846975))))))],
 Value.int IntKind.i64 (pick (F120 (val (IntKind.i64.wrap (0 - IntKind.i64.wrap (orI IntKind.u64 (IntKind.u64.wrap (a * 2 ^ 4)) (b.fdiv (2 ^ 60))))) (IntKind.i64.wrap (0 - IntKind.i64.wrap (andI IntKind.u64 b 1152921504606846975))))) 0 5)]))
 ((Small (IntKind.i64.wrap (orI IntKind.u64 (IntKind.u64.wrap (a * 2 ^ 4)) (b.fdiv (2 ^ 60)))) ∧ Small (IntKind.i64.wrap (andI IntKind.u64 b 1152921504606846975))) ∧
 K
 (Value.tuple
 #[Value.agg
 #[Value.int IntKind.i64 (gate (F120 (val (IntKind.i64.wrap (orI IntKind.u64 (IntKind.u64.wrap (a * 2 ^ 4)) (b.fdiv (2 ^ 60)))) (IntKind.i64.wrap (andI IntKind.u64 b 1152921504606846975)))) (hiO (val (IntKind.i64.wrap (orI IntKind.u64 (IntKind.u64.wrap (a * 2 ^ 4)) (b.fdiv (2 ^ 60)))) (IntKind.i64.wrap (andI IntKind.u64 b 1152921504606846975))))),
 Value.int IntKind.i64 (gate (F120 (val (IntKind.i64.wrap (orI IntKind.u64 (IntKind.u64.wrap (a * 2 ^ 4)) (b.fdiv (2 ^ 60)))) (IntKind.i64.wrap (andI IntKind.u64 b 1152921504606846975)))) (loO (val (IntKind.i64.wrap (orI IntKind.u64 (IntKind.u64.wrap (a * 2 ^ 4)) (b.fdiv (2 ^ 60)))) (IntKind.i64.wrap (andI IntKind.u64 b 1152921504606846975)))))],
 Value.int IntKind.i64 (pick (F120 (val (IntKind.i64.wrap (orI IntKind.u64 (IntKind.u64.wrap (a * 2 ^ 4)) (b.fdiv (2 ^ 60)))) (IntKind.i64.wrap (andI IntKind.u64 b 1152921504606846975)))) 0 5)]))))) := by kernel_rfl
theorem vc_wproduct (a b : Int) (K : Value → Prop) : callsX Tryz.prog (ΓP) (noAnn) 153 [num a, num b] K = (
 I64 a ∧
 I64 b ∧
 (U64 (absI a) ∧ U64 (absI b)) ∧
 bcase (!decide (a < 0) == decide (b < 0))
 (bcase (a != 0)
 ((U64 (absI a * absI b / 18446744073709551616) ∧ U64 (absI a * absI b % 18446744073709551616)) ∧
 K
 (Value.tuple
 #[Value.agg
 #[Value.int IntKind.i64 (gate (F120 (sval (absI a * absI b / 18446744073709551616) (absI a * absI b % 18446744073709551616) (b != 0))) (hiO (sval (absI a * absI b / 18446744073709551616) (absI a * absI b % 18446744073709551616) (b != 0)))),
 Value.int IntKind.i64 (gate (F120 (sval (absI a * absI b / 18446744073709551616) (absI a * absI b % 18446744073709551616) (b != 0))) (loO (sval (absI a * absI b / 18446744073709551616) (absI a * absI b % 18446744073709551616) (b != 0))))],
 Value.int IntKind.i64 (pick (F120 (sval (absI a * absI b / 18446744073709551616) (absI a * absI b % 18446744073709551616) (b != 0))) 0 5)]))
 ((U64 (absI a * absI b / 18446744073709551616) ∧ U64 (absI a * absI b % 18446744073709551616)) ∧
 K
 (Value.tuple
 #[Value.agg
 #[Value.int IntKind.i64 (gate (F120 (sval (absI a * absI b / 18446744073709551616) (absI a * absI b % 18446744073709551616) false)) (hiO (sval (absI a * absI b / 18446744073709551616) (absI a * absI b % 18446744073709551616) false))),
 Value.int IntKind.i64 (gate (F120 (sval (absI a * absI b / 18446744073709551616) (absI a * absI b % 18446744073709551616) false)) (loO (sval (absI a * absI b / 18446744073709551616) (absI a * absI b % 18446744073709551616) false)))],
 Value.int IntKind.i64 (pick (F120 (sval (absI a * absI b / 18446744073709551616) (absI a * absI b % 18446744073709551616) false)) 0 5)])))
 ((U64 (absI a * absI b / 18446744073709551616) ∧ U64 (absI a * absI b % 18446744073709551616)) ∧
 K
 (Value.tuple
 #[Value.agg
 #[Value.int IntKind.i64 (gate (F120 (sval (absI a * absI b / 18446744073709551616) (absI a * absI b % 18446744073709551616) false)) (hiO (sval (absI a * absI b / 18446744073709551616) (absI a * absI b % 18446744073709551616) false))),
 Value.int IntKind.i64 (gate (F120 (sval (absI a * absI b / 18446744073709551616) (absI a * absI b % 18446744073709551616) false)) (loO (sval (absI a * absI b / 18446744073709551616) (absI a * absI b % 18446744073709551616) false)))],
 Value.int IntKind.i64 (pick (F120 (sval (absI a * absI b / 18446744073709551616) (absI a * absI b % 18446744073709551616) false)) 0 5)]))) := by kernel_rfl
theorem vc_wquotient (a b n : Int) (up : Bool) (K : Value → Prop) : callsX Tryz.prog (ΓQ) (noAnn) 169 [wid a b, num n, .bool up] K = (
 True ∧
 bcase (!decide (WV a b)) (K (Value.tuple #[Value.int IntKind.i64 0, Value.int IntKind.i64 1]))
 (bcase (n == 0) (K (Value.tuple #[Value.int IntKind.i64 0, Value.int IntKind.i64 16]))
 (WV a b ∧
 I64 n ∧
 bcase (decide (absI (val a b) / 18446744073709551616 ≥ absI n)) (K (Value.tuple #[Value.int IntKind.i64 0, Value.int IntKind.i64 5]))
 ((U64 (absI (val a b) / 18446744073709551616) ∧ U64 (absI (val a b) % 18446744073709551616) ∧ U64 (absI n) ∧ absI (val a b) / 18446744073709551616 < absI n) ∧
 bcase (decide ((absI (val a b) / 18446744073709551616 * 18446744073709551616 + absI (val a b) % 18446744073709551616) % absI n > 0))
 (bcase (!up == !decide (val a b < 0) == decide (n < 0))
 (bcase (IntKind.u64.wrap ((absI (val a b) / 18446744073709551616 * 18446744073709551616 + absI (val a b) % 18446744073709551616) / absI n + 1) == 0) (K (Value.tuple #[Value.int IntKind.i64 0, Value.int IntKind.i64 5]))
 (bcase (!decide (val a b < 0) == decide (n < 0))
 (bcase (decide (IntKind.u64.wrap ((absI (val a b) / 18446744073709551616 * 18446744073709551616 + absI (val a b) % 18446744073709551616) / absI n + 1) ≤ 9223372036854775808))
 (K (Value.tuple #[Value.int IntKind.i64 (IntKind.i64.wrap (IntKind.u64.wrap (0 - IntKind.u64.wrap ((absI (val a b) / 18446744073709551616 * 18446744073709551616 + absI (val a b) % 18446744073709551616) / absI n + 1)))), Value.int IntKind.i64 0]))
 (bcase (!!decide (val a b < 0) == decide (n < 0))
 (bcase (decide (IntKind.u64.wrap ((absI (val a b) / 18446744073709551616 * 18446744073709551616 + absI (val a b) % 18446744073709551616) / absI n + 1) < 9223372036854775808)) (K (Value.tuple #[Value.int IntKind.i64 (IntKind.i64.wrap (IntKind.u64.wrap ((absI (val a b) / 18446744073709551616 * 18446744073709551616 + absI (val a b) % 18446744073709551616) / absI n + 1))), Value.int IntKind.i64 0]))
 (K (Value.tuple #[Value.int IntKind.i64 0, Value.int IntKind.i64 5])))
 (K (Value.tuple #[Value.int IntKind.i64 0, Value.int IntKind.i64 5]))))
 (bcase (!!decide (val a b < 0) == decide (n < 0))
 (bcase (decide (IntKind.u64.wrap ((absI (val a b) / 18446744073709551616 * 18446744073709551616 + absI (val a b) % 18446744073709551616) / absI n + 1) < 9223372036854775808)) (K (Value.tuple #[Value.int IntKind.i64 (IntKind.i64.wrap (IntKind.u64.wrap ((absI (val a b) / 18446744073709551616 * 18446744073709551616 + absI (val a b) % 18446744073709551616) / absI n + 1))), Value.int IntKind.i64 0]))
 (K (Value.tuple #[Value.int IntKind.i64 0, Value.int IntKind.i64 5])))
 (K (Value.tuple #[Value.int IntKind.i64 0, Value.int IntKind.i64 5])))))
 (bcase (!decide (val a b < 0) == decide (n < 0))
 (bcase (decide ((absI (val a b) / 18446744073709551616 * 18446744073709551616 + absI (val a b) % 18446744073709551616) / absI n ≤ 9223372036854775808)) (K (Value.tuple #[Value.int IntKind.i64 (IntKind.i64.wrap (IntKind.u64.wrap (0 - (absI (val a b) / 18446744073709551616 * 18446744073709551616 + absI (val a b) % 18446744073709551616) / absI n))), Value.int IntKind.i64 0]))
 (bcase (!!decide (val a b < 0) == decide (n < 0))
 (bcase (decide ((absI (val a b) / 18446744073709551616 * 18446744073709551616 + absI (val a b) % 18446744073709551616) / absI n < 9223372036854775808)) (K (Value.tuple #[Value.int IntKind.i64 (IntKind.i64.wrap ((absI (val a b) / 18446744073709551616 * 18446744073709551616 + absI (val a b) % 18446744073709551616) / absI n)), Value.int IntKind.i64 0]))
 (K (Value.tuple #[Value.int IntKind.i64 0, Value.int IntKind.i64 5])))
 (K (Value.tuple #[Value.int IntKind.i64 0, Value.int IntKind.i64 5]))))
 (bcase (!!decide (val a b < 0) == decide (n < 0))
 (bcase (decide ((absI (val a b) / 18446744073709551616 * 18446744073709551616 + absI (val a b) % 18446744073709551616) / absI n < 9223372036854775808)) (K (Value.tuple #[Value.int IntKind.i64 (IntKind.i64.wrap ((absI (val a b) / 18446744073709551616 * 18446744073709551616 + absI (val a b) % 18446744073709551616) / absI n)), Value.int IntKind.i64 0]))
 (K (Value.tuple #[Value.int IntKind.i64 0, Value.int IntKind.i64 5])))
 (K (Value.tuple #[Value.int IntKind.i64 0, Value.int IntKind.i64 5])))))
 (bcase (!decide (val a b < 0) == decide (n < 0))
 (bcase (decide ((absI (val a b) / 18446744073709551616 * 18446744073709551616 + absI (val a b) % 18446744073709551616) / absI n ≤ 9223372036854775808)) (K (Value.tuple #[Value.int IntKind.i64 (IntKind.i64.wrap (IntKind.u64.wrap (0 - (absI (val a b) / 18446744073709551616 * 18446744073709551616 + absI (val a b) % 18446744073709551616) / absI n))), Value.int IntKind.i64 0]))
 (bcase (!!decide (val a b < 0) == decide (n < 0))
 (bcase (decide ((absI (val a b) / 18446744073709551616 * 18446744073709551616 + absI (val a b) % 18446744073709551616) / absI n < 9223372036854775808)) (K (Value.tuple #[Value.int IntKind.i64 (IntKind.i64.wrap ((absI (val a b) / 18446744073709551616 * 18446744073709551616 + absI (val a b) % 18446744073709551616) / absI n)), Value.int IntKind.i64 0]))
 (K (Value.tuple #[Value.int IntKind.i64 0, Value.int IntKind.i64 5])))
 (K (Value.tuple #[Value.int IntKind.i64 0, Value.int IntKind.i64 5]))))
 (bcase (!!decide (val a b < 0) == decide (n < 0))
 (bcase (decide ((absI (val a b) / 18446744073709551616 * 18446744073709551616 + absI (val a b) % 18446744073709551616) / absI n < 9223372036854775808)) (K (Value.tuple #[Value.int IntKind.i64 (IntKind.i64.wrap ((absI (val a b) / 18446744073709551616 * 18446744073709551616 + absI (val a b) % 18446744073709551616) / absI n)), Value.int IntKind.i64 0]))
 (K (Value.tuple #[Value.int IntKind.i64 0, Value.int IntKind.i64 5])))
 (K (Value.tuple #[Value.int IntKind.i64 0, Value.int IntKind.i64 5])))))))) := by kernel_rfl
theorem vc_wfloor (a b n : Int) (K : Value → Prop) : callsX Tryz.prog (ΓT) (noAnn) 154 [wid a b, num n] K = (
 I64 n ∧ K (Value.tuple #[Value.int IntKind.i64 (gate (okQ a b n false) (quoI (val a b) n false)), Value.int IntKind.i64 (pick (WV a b) (pick (n = 0) 16 (pick (I64 (quoI (val a b) n false)) 0 5)) 1)])) := by kernel_rfl
theorem vc_wceil (a b n : Int) (K : Value → Prop) : callsX Tryz.prog (ΓT) (noAnn) 155 [wid a b, num n] K = (
 I64 n ∧ K (Value.tuple #[Value.int IntKind.i64 (gate (okQ a b n true) (quoI (val a b) n true)), Value.int IntKind.i64 (pick (WV a b) (pick (n = 0) 16 (pick (I64 (quoI (val a b) n true)) 0 5)) 1)])) := by kernel_rfl
theorem vc_mul64 (x y : Int) (K : Value → Prop) : callsX Tryz.prog ([]) (noAnn) 166 [.int .u64 x, .int .u64 y] K = (
 K
 (Value.tuple
 #[Value.int IntKind.u64
 (IntKind.u64.wrap
 (IntKind.u64.wrap (IntKind.u64.wrap (x.fdiv (2 ^ 32) * y.fdiv (2 ^ 32)) + (IntKind.u64.wrap (IntKind.u64.wrap (x.fdiv (2 ^ 32) * andI IntKind.u64 y 4294967295) + (IntKind.u64.wrap (andI IntKind.u64 x 4294967295 * andI IntKind.u64 y 4294967295)).fdiv (2 ^ 32))).fdiv (2 ^ 32)) +
 (IntKind.u64.wrap (andI IntKind.u64 (IntKind.u64.wrap (IntKind.u64.wrap (x.fdiv (2 ^ 32) * andI IntKind.u64 y 4294967295) + (IntKind.u64.wrap (andI IntKind.u64 x 4294967295 * andI IntKind.u64 y 4294967295)).fdiv (2 ^ 32))) 4294967295 + IntKind.u64.wrap (andI IntKind.u64 x 4294967295 * y.fdiv (2 ^ 32)))).fdiv (2 ^ 32))),
 Value.int IntKind.u64 (IntKind.u64.wrap (x * y))])) := by kernel_rfl
end Go.Proofs.YtjdcicjhpegphaaGreat
/- Arithmetic of wide: parts of words. No program is in sight here. -/
namespace Go.Proofs.YtjdcicjhpegphaaGreat
open Go Go.Abs Go.RowKit
theorem two64 : ((2 ^ 64 : Nat) : Int) = 18446744073709551616 := by decide
theorem mod64 (b : Int) : ((BitVec.ofInt 64 b).toNat : Int) = b % 18446744073709551616 := by
  rw [BitVec.toNat_ofInt, two64]
  exact Int.toNat_of_nonneg (Int.emod_nonneg _ (by decide))
theorem and60 (b : Int) : andI .i64 b 1152921504606846975 = b % 1152921504606846976 := by
  unfold andI
  show IntKind.i64.wrap (((BitVec.ofInt 64 b &&& BitVec.ofInt 64 1152921504606846975).toNat : Nat) : Int) = _
  have h1 : ((BitVec.ofInt 64 b &&& BitVec.ofInt 64 1152921504606846975).toNat : Nat) = (BitVec.ofInt 64 b).toNat % 2 ^ 60 := by
    rw [BitVec.toNat_and, show (BitVec.ofInt 64 1152921504606846975).toNat = 2 ^ 60 - 1 from by decide, Nat.and_two_pow_sub_one_eq_mod]
  rw [h1]
  have h2 := mod64 b
  have h3 : (((BitVec.ofInt 64 b).toNat % 2 ^ 60 : Nat) : Int) = b % 1152921504606846976 := by omega
  rw [h3]
  exact wrap_in (by omega)
theorem and60u (b : Int) : andI .u64 b 1152921504606846975 = b % 1152921504606846976 := by
  unfold andI
  show IntKind.u64.wrap (((BitVec.ofInt 64 b &&& BitVec.ofInt 64 1152921504606846975).toNat : Nat) : Int) = _
  have h1 : ((BitVec.ofInt 64 b &&& BitVec.ofInt 64 1152921504606846975).toNat : Nat) = (BitVec.ofInt 64 b).toNat % 2 ^ 60 := by
    rw [BitVec.toNat_and, show (BitVec.ofInt 64 1152921504606846975).toNat = 2 ^ 60 - 1 from by decide, Nat.and_two_pow_sub_one_eq_mod]
  rw [h1]
  have h2 := mod64 b
  have h3 : (((BitVec.ofInt 64 b).toNat % 2 ^ 60 : Nat) : Int) = b % 1152921504606846976 := by omega
  rw [h3]
  show (b % 1152921504606846976) % 18446744073709551616 = _
  omega
theorem fdiv60 (b : Int) : b.fdiv (2 ^ 60) = b / 1152921504606846976 := by
  rw [show ((2 : Int) ^ 60) = 1152921504606846976 from by decide]
  exact Int.fdiv_eq_ediv_of_nonneg _ (by decide)
theorem and32u (b : Int) : andI .u64 b 4294967295 = b % 4294967296 := by
  unfold andI
  show IntKind.u64.wrap (((BitVec.ofInt 64 b &&& BitVec.ofInt 64 4294967295).toNat : Nat) : Int) = _
  have h1 : ((BitVec.ofInt 64 b &&& BitVec.ofInt 64 4294967295).toNat : Nat) = (BitVec.ofInt 64 b).toNat % 2 ^ 32 := by
    rw [BitVec.toNat_and, show (BitVec.ofInt 64 4294967295).toNat = 2 ^ 32 - 1 from by decide, Nat.and_two_pow_sub_one_eq_mod]
  rw [h1]
  have h2 := mod64 b
  have h3 : (((BitVec.ofInt 64 b).toNat % 2 ^ 32 : Nat) : Int) = b % 4294967296 := by omega
  rw [h3]
  show (b % 4294967296) % 18446744073709551616 = _
  omega
theorem fdiv32 (b : Int) : b.fdiv (2 ^ 32) = b / 4294967296 := by
  rw [show ((2 : Int) ^ 32) = 4294967296 from by decide]
  exact Int.fdiv_eq_ediv_of_nonneg _ (by decide)
theorem half_le {a b : Int} (ha : 0 ≤ a ∧ a ≤ 4294967295) (hb : 0 ≤ b ∧ b ≤ 4294967295) : 0 ≤ a * b ∧ a * b ≤ 18446744065119617025 :=
  ⟨Int.mul_nonneg ha.1 hb.1, by have := Int.mul_le_mul ha.2 hb.2 hb.1 (by decide : (0 : Int) ≤ 4294967295); omega⟩
theorem split_mulI (a b c d K : Int) : (a * K + b) * (c * K + d) = (a * c) * (K * K) + (a * d + b * c) * K + b * d := by
  grind
theorem or_add {i A B : Nat} (h : A % 2 ^ i = 0) (hB : B < 2 ^ i) : A ||| B = A + B := by
  have e : 2 ^ i * (A / 2 ^ i) = A := by have := Nat.div_add_mod A (2 ^ i); omega
  have := Nat.two_pow_add_eq_or_of_lt hB (A / 2 ^ i)
  rw [e] at this
  exact this.symm
theorem orI_u (a b : Int) : orI .u64 a b = IntKind.u64.wrap (((BitVec.ofInt 64 a).toNat ||| (BitVec.ofInt 64 b).toNat : Nat) : Int) := by
  unfold orI
  rw [← BitVec.toNat_or]
  rfl
theorem wrap_u (x : Int) : IntKind.u64.wrap x = x % 18446744073709551616 := rfl
theorem wrap_up {x : Int} (h : 9223372036854775808 ≤ x) (k : x < 18446744073709551616) : IntKind.i64.wrap x = x - 18446744073709551616 := by
  have e : IntKind.i64.wrap x = IntKind.i64.wrap (x - 18446744073709551616) := by
    simp only [IntKind.wrap]
    have : (x - 18446744073709551616) % 18446744073709551616 = x % 18446744073709551616 := by omega
    simp [IntKind.bits, IntKind.signed, this]
  rw [e, wrap_in (by omega)]
theorem or60_u {a b : Int} (hb : 0 ≤ b ∧ b < 1152921504606846976) : orI .u64 (IntKind.u64.wrap (a * 2 ^ 60)) b = (a * 1152921504606846976) % 18446744073709551616 + b := by
  rw [show ((2 : Int) ^ 60) = 1152921504606846976 from by decide, orI_u, wrap_u, wrap_u]
  have hA := mod64 (a * 1152921504606846976 % 18446744073709551616)
  have hB := mod64 b
  rw [or_add (i := 60) (by omega) (by omega)]
  omega
theorem or4_u {a b : Int} (hb : 0 ≤ b ∧ b < 16) : orI .u64 (IntKind.u64.wrap (a * 2 ^ 4)) b = (a * 16) % 18446744073709551616 + b := by
  rw [show ((2 : Int) ^ 4) = 16 from by decide, orI_u, wrap_u, wrap_u]
  have hA := mod64 (a * 16 % 18446744073709551616)
  have hB := mod64 b
  rw [or_add (i := 4) (by omega) (by omega)]
  omega
end Go.Proofs.YtjdcicjhpegphaaGreat
/- Contracts of the functions of wide. -/
namespace Go.Proofs.YtjdcicjhpegphaaGreat
open Go Go.Abs Go.RowKit
theorem eq_pair {a b c d : Value} (h : a = c) (k : b = d) : Value.tuple #[a, b] = pair c d := by rw [h, k]
theorem eq_wid {a b c d : Int} (h : a = c) (k : b = d) : Value.agg #[.int .i64 a, .int .i64 b] = wid c d := by rw [h, k]
theorem eq_num {k : IntKind} {a b : Int} (h : a = b) : Value.int k a = .int k b := by rw [h]
theorem eq_no {p : Prop} [Decidable p] (h : ¬ p) : Value.bool false = .bool (decide p) := by simp [h]
theorem eq_dec {p q : Prop} [Decidable p] [Decidable q] (h : p ↔ q) : Value.bool (decide p) = .bool (decide q) := by simp [h]
theorem gate_yes {c : Prop} [Decidable c] (h : c) (x : Int) : gate c x = x := if_pos h
theorem gate_no {c : Prop} [Decidable c] (h : ¬ c) (x : Int) : gate c x = 0 := if_neg h
theorem pick_yes {c : Prop} [Decidable c] (h : c) (x y : Int) : pick c x y = x := if_pos h
theorem pick_no {c : Prop} [Decidable c] (h : ¬ c) (x y : Int) : pick c x y = y := if_neg h
theorem eq_siz {a b c d : Int} {m n : Bool} (h : a = c) (k : b = d) (l : m = n) : Value.agg #[.int .u64 a, .int .u64 b, .bool m] = siz c d n := by rw [h, k, l]
theorem sval_eq {t : Int} (h : 0 ≤ t) (n : Bool) : sval (t / 18446744073709551616) (t % 18446744073709551616) n = if n = true then -t else t := by
  unfold sval
  cases n <;> simp only [Bool.false_eq_true, if_false, if_true] <;> omega
theorem wleaf {x y : Int} (h : x = y) : Value.tuple #[.agg #[.int .i64 (gate (F120 x) (hiO x)), .int .i64 (gate (F120 x) (loO x))], .int .i64 (pick (F120 x) 0 5)] = wAns y := by
  subst h; rfl
theorem absI_cases (a : Int) : (a < 0 ∧ absI a = -a) ∨ (0 ≤ a ∧ absI a = a) := by unfold absI; split <;> omega
variable {Φ : World → Prop} (hst : ∀ w w', Φ w → Below w.heap.size w w' → Φ w')
include hst
theorem c_wvalid (a b : Int) : Ans Tryz.prog Φ 181 [wid a b] (.bool (decide (WV a b))) := by
  refine fn_by hst Sound.nil (vc_wvalid a b _) ?_
  simp only [bcase_iff, decide_eq_true_eq, decide_eq_false_iff_not]
  refine ⟨fun h1 => ⟨fun h2 => ⟨fun h3 => eq_dec ?_, fun h3 => eq_no ?_⟩, fun h2 => eq_no ?_⟩, fun h1 => eq_no ?_⟩ <;> unfold WV <;> omega
theorem s_wvalid : Sound Tryz.prog Φ [(181, .v sWValid)] :=
  Sound.cons (by kernel_rfl) (fun args p v h _ => by unfold sWValid at h; split at h <;> cases h; exact c_wvalid hst _ _) Sound.nil
theorem c_wabs (n : Int) (hn : I64 n) : Ans Tryz.prog Φ 167 [num n] (.int .u64 (absI n)) := by
  refine fn_by hst Sound.nil (vc_wabs n _) ?_
  unfold I64 at hn
  have hw : ∀ x : Int, IntKind.u64.wrap x = x % 18446744073709551616 := fun x => by
    unfold IntKind.wrap
    rfl
  simp only [bcase_iff, decide_eq_true_eq, decide_eq_false_iff_not, hw]
  unfold absI
  refine ⟨fun h => eq_num ?_, fun h => eq_num ?_⟩
  · rw [if_pos h]; omega
  · rw [if_neg h]; omega
theorem c_wfit (a b : Int) (ha : Small a) (hb : Small b) : Ans Tryz.prog Φ 180 [num a, num b] (wAns (val a b)) := by
  refine fn_by hst (s_wvalid hst) (vc_wfit a b _) ?_
  unfold Small at ha hb
  have h1 : IntKind.i64.wrap (a + b.fdiv (2 ^ 60)) = hiO (val a b) := by
    rw [fdiv60, wrap_in (by omega)]
    unfold hiO val; omega
  have h2 : andI .i64 b 1152921504606846975 = loO (val a b) := by
    rw [and60]; unfold loO val; omega
  rw [h1, h2]
  have h3 : WV (hiO (val a b)) (loO (val a b)) ↔ F120 (val a b) := by unfold WV F120 hiO loO; omega
  refine ⟨trivial, ?_⟩
  simp only [bcase_iff, Bool.not_eq_true', Bool.not_eq_false', decide_eq_true_eq, decide_eq_false_iff_not, h3]
  refine ⟨fun h => eq_pair (eq_wid ?_ ?_) (eq_num ?_), fun h => eq_pair (eq_wid ?_ ?_) (eq_num ?_)⟩
  · rw [gate_no h]
  · rw [gate_no h]
  · rw [pick_no h]
  · rw [gate_yes h]
  · rw [gate_yes h]
  · rw [pick_yes h]
theorem s_wfit : Sound Tryz.prog Φ ΓF :=
  Sound.cons (by kernel_rfl) (fun args p v h hp => by unfold sWFit at h; split at h <;> cases h; exact c_wfit hst _ _ hp.1 hp.2) (s_wvalid hst)
theorem c_wsizeof (a b : Int) (h : WV a b) : Ans Tryz.prog Φ 182 [wid a b] (siz (absI (val a b) / 18446744073709551616) (absI (val a b) % 18446744073709551616) (decide (val a b < 0))) := by
  refine fn_by hst Sound.nil (vc_wsizeof a b _) ?_
  unfold WV at h
  have f4 : ∀ x : Int, x.fdiv (2 ^ 4) = x / 16 := fun x => by
    rw [show ((2 : Int) ^ 4) = 16 from by decide]
    exact Int.fdiv_eq_ediv_of_nonneg _ (by decide)
  simp only [bcase_iff, decide_eq_true_eq, decide_eq_false_iff_not]
  refine ⟨fun h1 => eq_siz ?_ ?_ ?_, fun h1 => eq_siz ?_ ?_ ?_⟩
  · rw [fdiv60, f4, wrap_in (n := 0 - a) (by omega), wrap_in (n := 0 - b) (by omega), wrap_in (by omega), wrap_u]
    unfold absI val; split <;> omega
  · rw [and60, fdiv60, wrap_in (n := 0 - a) (by omega), wrap_in (n := 0 - b) (by omega), wrap_in (by omega)]
    rw [or60_u (by rw [wrap_u]; omega), wrap_u, wrap_u]
    unfold absI val; split <;> omega
  · have : val a b < 0 ↔ a < 0 := by unfold val; omega
    simp only [this]
  · rw [f4, wrap_u]
    unfold absI val; split <;> omega
  · rw [or60_u (by rw [wrap_u]; omega), wrap_u, wrap_u]
    unfold absI val; split <;> omega
  · have : val a b < 0 ↔ a < 0 := by unfold val; omega
    simp only [this]
theorem c_wwide (a b : Int) (n : Bool) (ha : U64 a) (hb : U64 b) : Ans Tryz.prog Φ 168 [siz a b n] (wAns (sval a b n)) := by
  refine fn_by hst (s_wfit hst) (vc_wwide a b n _) ?_
  unfold U64 at ha hb
  have hbits : IntKind.u64.bits = 64 := rfl
  have bad : ¬ F120 (sval a b n) → Value.tuple #[Value.agg #[.int .i64 0, .int .i64 0], .int .i64 5] = wAns (sval a b n) := fun h =>
    eq_pair (eq_wid (gate_no h _).symm (gate_no h _).symm) (eq_num (pick_no h _ _).symm)
  by_cases h1 : a > 72057594037927936
  · rw [decide_eq_true h1]
    refine bad ?_
    unfold F120 sval; split <;> omega
  rw [decide_eq_false h1]
  have hor : orI .u64 (IntKind.u64.wrap (a * 2 ^ 4)) (b / 1152921504606846976) = a * 16 + b / 1152921504606846976 := by
    rw [or4_u (by omega)]; omega
  simp only [hbits, fdiv60, and60u, hor]
  have w1 : IntKind.i64.wrap (a * 16 + b / 1152921504606846976) = a * 16 + b / 1152921504606846976 := wrap_in (by omega)
  have w2 : IntKind.i64.wrap (b % 1152921504606846976) = b % 1152921504606846976 := wrap_in (by omega)
  have w3 : IntKind.i64.wrap (0 - (a * 16 + b / 1152921504606846976)) = 0 - (a * 16 + b / 1152921504606846976) := wrap_in (by omega)
  have w4 : IntKind.i64.wrap (0 - b % 1152921504606846976) = 0 - b % 1152921504606846976 := wrap_in (by omega)
  simp only [w1, w2, w3, w4]
  have s1 : Small (a * 16 + b / 1152921504606846976) := by unfold Small; omega
  have s2 : Small (b % 1152921504606846976) := by unfold Small; omega
  have s3 : Small (0 - (a * 16 + b / 1152921504606846976)) := by unfold Small; omega
  have s4 : Small (0 - b % 1152921504606846976) := by unfold Small; omega
  have v1 : val (0 - (a * 16 + b / 1152921504606846976)) (0 - b % 1152921504606846976) = sval a b true := by unfold val sval; simp only [if_true]; omega
  have v2 : val (a * 16 + b / 1152921504606846976) (b % 1152921504606846976) = sval a b false := by unfold val sval; simp only [Bool.false_eq_true, if_false]; omega
  simp only [v1, v2, s1, s2, s3, s4, true_and]
  cases n with
  | true =>
    by_cases h2 : a = 72057594037927936
    · by_cases h3 : b > 0
      · simp only [bcase, beq_iff_eq, h2, h3, beq_self_eq_true, decide_true]
        exact h2 ▸ bad (by unfold F120 sval; simp only [if_true]; omega)
      · simp only [bcase, h2, h3, beq_self_eq_true, decide_false, Bool.not_true]
    · simp only [bcase, beq_eq_false_iff_ne.2 h2]
  | false =>
    by_cases h2 : a = 72057594037927936
    · by_cases h3 : b > 0
      · simp only [bcase, h2, h3, beq_self_eq_true, decide_true]
        exact h2 ▸ bad (by unfold F120 sval; simp only [Bool.false_eq_true, if_false]; omega)
      · simp only [bcase, h2, h3, beq_self_eq_true, decide_false, Bool.not_false]
        exact h2 ▸ bad (by unfold F120 sval; simp only [Bool.false_eq_true, if_false]; omega)
    · simp only [bcase, beq_eq_false_iff_ne.2 h2]
theorem c_mul64 (x y : Int) (hx : U64 x) (hy : U64 y) : Ans Tryz.prog Φ 166 [.int .u64 x, .int .u64 y] (pair (.int .u64 (x * y / 18446744073709551616)) (.int .u64 (x * y % 18446744073709551616))) := by
  refine fn_by hst Sound.nil (vc_mul64 x y _) ?_
  unfold U64 at hx hy
  refine eq_pair (eq_num ?_) (eq_num (wrap_u _))
  simp only [fdiv32, and32u, wrap_u]
  have b1 := half_le (a := x / 4294967296) (b := y / 4294967296) (by omega) (by omega)
  have b2 := half_le (a := x / 4294967296) (b := y % 4294967296) (by omega) (by omega)
  have b3 := half_le (a := x % 4294967296) (b := y / 4294967296) (by omega) (by omega)
  have b4 := half_le (a := x % 4294967296) (b := y % 4294967296) (by omega) (by omega)
  have e := split_mulI (x / 4294967296) (x % 4294967296) (y / 4294967296) (y % 4294967296) 4294967296
  rw [show x / 4294967296 * 4294967296 + x % 4294967296 = x by omega, show y / 4294967296 * 4294967296 + y % 4294967296 = y by omega] at e
  generalize x / 4294967296 * (y / 4294967296) = s at *
  generalize x / 4294967296 * (y % 4294967296) = p at *
  generalize x % 4294967296 * (y / 4294967296) = r at *
  generalize x % 4294967296 * (y % 4294967296) = q at *
  generalize x * y = t at *
  omega
theorem s_prod : Sound Tryz.prog Φ ΓP :=
  Sound.cons (by kernel_rfl) (fun args p v h hp => by unfold sWWide at h; split at h <;> cases h; exact c_wwide hst _ _ _ hp.1 hp.2)
  (Sound.cons (by kernel_rfl) (fun args p v h hp => by unfold sWAbs at h; split at h <;> cases h; exact c_wabs hst _ hp)
  (Sound.cons (by kernel_rfl) (fun args p v h hp => by unfold sMul64 at h; split at h <;> cases h; exact c_mul64 hst _ _ hp.1 hp.2) Sound.nil))
theorem c_wproduct (a b : Int) (ha : I64 a) (hb : I64 b) : Ans Tryz.prog Φ 153 [num a, num b] (wAns (a * b)) := by
  refine fn_by hst (s_prod hst) (vc_wproduct a b _) ?_
  have ha' := ha
  have hb' := hb
  unfold I64 at ha' hb'
  have qa := absI_cases a
  have qb := absI_cases b
  have ua : U64 (absI a) := by unfold U64; omega
  have ub : U64 (absI b) := by unfold U64; omega
  have t0 : 0 ≤ absI a * absI b := Int.mul_nonneg ua.1 ub.1
  have t1 : absI a * absI b ≤ 9223372036854775808 * 9223372036854775808 := Int.mul_le_mul (by omega) (by omega) ub.1 (by decide)
  have u1 : U64 (absI a * absI b / 18446744073709551616) := by unfold U64; omega
  have u2 : U64 (absI a * absI b % 18446744073709551616) := by unfold U64; omega
  refine ⟨ha, hb, ⟨ua, ub⟩, ?_⟩
  simp only [sval_eq t0, u1, u2, and_self, true_and]
  have sgn : (decide (a < 0) = decide (b < 0) → absI a * absI b = a * b) ∧ (decide (a < 0) ≠ decide (b < 0) → absI a * absI b = -(a * b)) := by
    rcases qa with ⟨h1, e1⟩ | ⟨h1, e1⟩ <;> rcases qb with ⟨h2, e2⟩ | ⟨h2, e2⟩ <;> rw [e1, e2]
    · exact ⟨fun _ => by grind, fun q => absurd (by rw [decide_eq_true h1, decide_eq_true h2]) q⟩
    · exact ⟨fun q => absurd q (by rw [decide_eq_true h1, decide_eq_false (by omega)]; simp), fun _ => by grind⟩
    · exact ⟨fun q => absurd q (by rw [decide_eq_false (by omega), decide_eq_true h2]; simp), fun _ => by grind⟩
    · exact ⟨fun _ => rfl, fun q => absurd (by rw [decide_eq_false (by omega), decide_eq_false (by omega)]) q⟩
  have hz : (a = 0 ∨ b = 0) → absI a * absI b = 0 ∧ a * b = 0 := by
    rintro (rfl | rfl)
    · exact ⟨by rw [show absI 0 = 0 from rfl, Int.zero_mul], Int.zero_mul _⟩
    · exact ⟨by rw [show absI 0 = 0 from rfl, Int.mul_zero], Int.mul_zero _⟩
  simp only [bcase_iff]
  refine ⟨fun c1 => ⟨fun c2 => wleaf ?_, fun c2 => wleaf ?_⟩, fun c1 => wleaf ?_⟩
  · have d : decide (a < 0) ≠ decide (b < 0) := by intro q; rw [q] at c1; simp at c1
    by_cases hb0 : b = 0
    · have := hz (.inr hb0); rw [this.1, this.2]; simp
    · have := sgn.2 d; rw [this]; simp [hb0]
  · have hz' := hz (.inl (by simpa using c2)); rw [hz'.1, hz'.2]; simp
  · have d : decide (a < 0) = decide (b < 0) := by revert c1; cases decide (a < 0) <;> cases decide (b < 0) <;> simp
    have := sgn.1 d; rw [this]; simp
end Go.Proofs.YtjdcicjhpegphaaGreat
