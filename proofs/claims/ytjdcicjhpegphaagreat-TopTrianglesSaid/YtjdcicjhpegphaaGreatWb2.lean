/- The examples that TopTangents looks at: what they answer. The examples that TopTangents looks at: what they ask. The examples that TopTangents looks at: contracts. -/
import Derived.Test.YtjdcicjhpegphaaGreatWa2
import Derived.Test.YtjdcicjhpegphaaGreatPa
set_option linter.unusedSimpArgs false
set_option linter.unusedVariables false
namespace Go.Proofs.YtjdcicjhpegphaaGreat
open Go Go.Abs Go.RowKit Go.Sine
def P6 (l : List Int) : Prop := l = [0, 0, 0, 3600000]
def pLeg (X Y : Int) : PSpec := fun | [.agg ⟨[.int .i64 a, .int .i64 b]⟩, .agg ⟨[.int .i64 c, .int .i64 d]⟩], [.int .i64 z] => some (P6 [a, b, c, d] ∧ PbZ z, wid X Y) | _, _ => none
def ΓIn (X Y : Int) : List (FuncId × CSpec) := [(41, .v sPtV), (42, .p (pLeg X Y)), (43, .p (pLeg 3600000 3600000))]
def arX : List (Int × Int) := [(0, 0)]
def BvOk (a n : Int) : Prop := I64 (n - a)
def sBvd : FSpec := fun | [.agg ⟨[.int .i64 a, .int .i64 _]⟩, .int .i64 n] => some (BvOk a n, num (wrI (n - a))) | _ => none
def ΓAd : List (FuncId × CSpec) := [(129, .v sAllB), (150, .v sEvery), (160, .v sBvd)]
def AAd : FuncId → List (Nat × LoopBy) := fun _ => [(0, .times 5), (1, .times 5), (2, .times 5)]
def sInv (X Y : Int) : FSpec := fun | [.agg ⟨[.int .i64 a, .int .i64 b]⟩, .agg ⟨[.int .i64 c, .int .i64 d]⟩] => some (P6 [a, b, c, d], pair (arc4 X Y 3600000 3600000) (num 0)) | _ => none
def L6 (l : List Int) : Prop := l = [0, 0, 0, 0, 3600000, 3600000]
def sAl6 : FSpec := fun | [.agg ⟨[.int .i64 a, .int .i64 b, .int .i64 c, .int .i64 d, .int .i64 e, .int .i64 f]⟩] => some (L6 [a, b, c, d, e, f], fxOk 1800000 1800000) | _ => none
def AB0 (a b : Int) : Prop := a = 0 ∧ b = 0
def AB6 (a b : Int) : Prop := a = 0 ∧ b = 60000
def sCos6 : FSpec := fun | [.agg ⟨[.int .i64 a, .int .i64 b]⟩] => (bif decide (b = 0) then some (AB0 a b, fxOk 1073741824 1073741824) else some (AB6 a b, fxOk 1073578287 1073741824)) | _ => none
def sSin6 : FSpec := fun | [.agg ⟨[.int .i64 a, .int .i64 b]⟩] => some (AB0 a b, fxOk 0 0) | _ => none
def En0 (x n d : Int) : Prop := x = 0 ∧ n = 60000 ∧ d = 1073741824
def En1 (x n d : Int) : Prop := x = 1073741824 ∧ n = 60000 ∧ d = 1073741824
def sEnc6 : FSpec := fun | [.int .i64 x, .int .i64 n, .int .i64 d] => (bif decide (x = 0) then some (En0 x n d, trip 0 0 0) else some (En1 x n d, trip 60000 60000 0)) | _ => none
def QuP (a b c d n : Int) : Prop := FixV a b ∧ FixV c d ∧ 0 < c ∧ n = 0
def sQuo6 : FSpec := fun | [.agg ⟨[.int .i64 a, .int .i64 b]⟩, .agg ⟨[.int .i64 c, .int .i64 d]⟩, .int .i64 n] => some (QuP a b c d n, trip 0 0 0) | _ => none
def EdOk (i l : Int) : Prop := (0 ≤ i ∧ i ≤ 64) ∧ 0 ≤ l ∧ l ≤ 16
def edI (i l : Int) : Int := i * 10800000 / 2 ^ l.toNat
def sEdge : FSpec := fun | [.int .i64 i, .int .i64 l] => some (EdOk i l, num (edI i l)) | _ => none
end Go.Proofs.YtjdcicjhpegphaaGreat
namespace Go.Proofs.YtjdcicjhpegphaaGreat
open Go Go.Abs Go.RowKit Go.Sine
theorem vc_gcinverse (X Y : Int) (K : Value → Prop) : callsX Tryz.prog (ΓIn X Y) (noAnn) 15 [wid 0 0, wid 0 3600000] K = (
 True ∧ True ∧ (P6 [0, 0, 0, 3600000] ∧ PbZ 0) ∧ (P6 [0, 0, 0, 3600000] ∧ PbZ 0) ∧ K (Value.tuple #[Value.agg #[Value.int IntKind.i64 X, Value.int IntKind.i64 Y, Value.int IntKind.i64 3600000, Value.int IntKind.i64 3600000], Value.int IntKind.i64 0])) := by kernel_rfl
theorem vc_plbeyond (a b n : Int) (K : Value → Prop) : callsX Tryz.prog ([(52, .v sAnWrap)]) (noAnn) 160 [wid a b, num n] K = (
 True ∧ K (Value.int IntKind.i64 (wrI (IntKind.i64.wrap (n - a))))) := by kernel_rfl
theorem vc_around (u : _root_.Unit) : rcallsX Tryz.prog (ΓAd) (AAd) 159 [.one (.r 23 (.pair (.int .i64) (.int .i64)) [(0, 0)])] [.agg [.v (num 0), .v (num 0)]] = (
 True ∧
 True ∧
 BvOk ([(0, 0)].getD 0 (0, 0)).fst ([(0, 0)].getD 0 (0, 0)).fst ∧
 Value.int IntKind.i64 ([(0, 0)].getD 0 (0, 0)).fst = Value.int IntKind.i64 0 ∧
 Value.int IntKind.i64
 (IntKind.i64.wrap
 (([(0, 0)].getD 0 (0, 0)).fst + if IntKind.i64.wrap (IntKind.i64.wrap (wrI (([(0, 0)].getD 0 (0, 0)).fst - ([(0, 0)].getD 0 (0, 0)).fst) + ([(0, 0)].getD 0 (0, 0)).snd) - ([(0, 0)].getD 0 (0, 0)).fst) > 0 then IntKind.i64.wrap (IntKind.i64.wrap (wrI (([(0, 0)].getD 0 (0, 0)).fst - ([(0, 0)].getD 0 (0, 0)).fst) + ([(0, 0)].getD 0 (0, 0)).snd) - ([(0, 0)].getD 0 (0, 0)).fst) else 0)) =
 Value.int IntKind.i64 0 ∧
 True) := by kernel_rfl
theorem vc_cledge (i l : Int) (K : Value → Prop) : callsX Tryz.prog ([]) (noAnn) 170 [num i, num l] K = (
 bcase (decide (l < 0)) False (K (Value.int IntKind.i64 ((IntKind.i64.wrap (i * 10800000)).fdiv (2 ^ min l.toNat 64))))) := by kernel_rfl
end Go.Proofs.YtjdcicjhpegphaaGreat
namespace Go.Proofs.YtjdcicjhpegphaaGreat
open Go Go.Abs Go.RowKit Go.Sine
theorem c_gcinverse : ∃ X Y : Int, ∀ {Φ : World → Prop} (hst : ∀ w w', Φ w → Below w.heap.size w w' → Φ w'), Ans Tryz.prog Φ 15 [wid 0 0, wid 0 3600000] (pair (arc4 X Y 3600000 3600000) (num 0)) := by
  obtain ⟨X, Y, hc⟩ := m_gccourse
  refine ⟨X, Y, fun {Φ} hst => fn_by hst (Γ := ΓIn X Y) ?_ (vc_gcinverse X Y _) ⟨trivial, trivial, ⟨rfl, rfl⟩, ⟨rfl, rfl⟩, rfl⟩⟩
  refine Sound.cons (by kernel_rfl) (fun args p v h hp => by unfold sPtV at h; split at h <;> cases h; exact c_plvalidpoint hst _ _) (Sound.pcons (by kernel_rfl) (fun args cell p v h hp => ?_) (Sound.pcons (by kernel_rfl) (fun args cell p v h hp => ?_) Sound.nil))
  · unfold pLeg at h
    split at h <;> cases h
    obtain ⟨h1, h2⟩ := hp
    unfold P6 at h1
    cases h1
    cases h2
    exact zc_pans fun b T => hc hst b T
  · unfold pLeg at h
    split at h <;> cases h
    obtain ⟨h1, h2⟩ := hp
    unfold P6 at h1
    cases h1
    cases h2
    exact zc_pans fun b T => m_gcdistance hst b T
section
variable {Φ : World → Prop} (hst : ∀ w w', Φ w → Below w.heap.size w w' → Φ w')
include hst
theorem c_plbeyond {a n : Int} (b : Int) (h : BvOk a n) : Ans Tryz.prog Φ 160 [wid a b, num n] (num (wrI (n - a))) := by
  refine fn_by hst (Sound.cons (by kernel_rfl) (fun args p v h hp => by unfold sAnWrap at h; split at h <;> cases h; exact c_anwrap hst _) Sound.nil) (vc_plbeyond a b n _) ⟨trivial, ?_⟩
  rw [wrap_in (by unfold BvOk I64 at h; omega)]
theorem s_Ad : Sound Tryz.prog Φ ΓAd :=
  Sound.cons (by kernel_rfl) (fun args p v h hp => by unfold sAllB at h; split at h <;> cases h; exact c_plall hst _ _)
  (Sound.cons (by kernel_rfl) (fun args p v h hp => by unfold sEvery at h; split at h <;> cases h; exact c_plevery hst)
  (Sound.cons (by kernel_rfl) (fun args p v h hp => by unfold sBvd at h; split at h <;> cases h; exact c_plbeyond hst _ hp) Sound.nil))
theorem r_around0 (xs : List (Int × Int)) (h : xs = arX) : RAns Tryz.prog Φ 159 [.one (.r 23 (.pair (.int .i64) (.int .i64)) xs)] [.agg [.v (num 0), .v (num 0)]] := by
  subst h
  refine rfn_by hst (s_Ad hst) (vc_around ()) ?_
  refine ⟨trivial, trivial, ?_, rfl, ?_, trivial⟩
  · unfold BvOk I64; decide
  · exact congrArg (Value.int IntKind.i64) (by decide)
theorem c_al6 : Ans Tryz.prog Φ 24 [tri6 0 0 0 0 3600000 3600000] (fxOk 1800000 1800000) := by
  have h := c_csaltitude hst meets_allR (l := 0) (l' := 0) (d := 0) (d' := 0) (h := 3600000) (h' := 3600000) (by decide +kernel)
  rw [show hL 0 0 0 0 3600000 3600000 = 1800000 from by decide +kernel, show hH 0 0 0 0 3600000 3600000 = 1800000 from by decide +kernel] at h
  exact h
theorem c_cos6 {a b : Int} (h : (b = 0 ∧ AB0 a b) ∨ (b ≠ 0 ∧ AB6 a b)) : Ans Tryz.prog Φ 94 [wid a b] (fxOk (if b = 0 then 1073741824 else 1073578287) 1073741824) := by
  rcases h with ⟨h0, h1, h2⟩ | ⟨h0, h1, h2⟩
  · subst h1 h2
    have := t_cos hst (a := 0) (b := 0) (by decide +kernel)
    rw [show cL 0 0 = 1073741824 from by decide +kernel, show cH 0 0 = 1073741824 from by decide +kernel] at this
    exact this
  · subst h1 h2
    have := t_cos hst (a := 0) (b := 60000) (by decide +kernel)
    rw [show cL 0 60000 = 1073578287 from by decide +kernel, show cH 0 60000 = 1073741824 from by decide +kernel] at this
    exact this
theorem c_sin6 {a b : Int} (h : AB0 a b) : Ans Tryz.prog Φ 85 [wid a b] (fxOk 0 0) := by
  obtain ⟨h1, h2⟩ := h
  subst h1 h2
  have := t_sin hst (a := 0) (b := 0) (by decide +kernel)
  rw [show encL 0 0 = 0 from by decide +kernel, show encH 0 0 = 0 from by decide +kernel] at this
  exact this
theorem c_enc6 : Ans Tryz.prog Φ 134 [num 1073741824, num 60000, num 1073741824] (trip 60000 60000 0) := by
  have := c_fxenclose hst (x := 1073741824) (n := 60000) (d := 1073741824) (by unfold Q31; decide) (by decide +kernel) (by decide) (by decide)
  rw [show eL 1073741824 60000 1073741824 = 60000 from by decide +kernel, show eH 1073741824 60000 1073741824 = 60000 from by decide +kernel, show eE 1073741824 60000 1073741824 = 0 from by decide +kernel] at this
  exact this
theorem c_enc0 : Ans Tryz.prog Φ 134 [num 0, num 60000, num 1073741824] (trip 0 0 0) := by
  have := c_fxenclose hst (x := 0) (n := 60000) (d := 1073741824) (by unfold Q31; decide) (by decide +kernel) (by decide) (by decide)
  rw [show eL 0 60000 1073741824 = 0 from by decide +kernel, show eH 0 60000 1073741824 = 0 from by decide +kernel, show eE 0 60000 1073741824 = 0 from by decide +kernel] at this
  exact this
theorem c_quo6 {a b c d n : Int} (h : QuP a b c d n) : Ans Tryz.prog Φ 104 [wid a b, wid c d, num n] (trip 0 0 0) := by
  obtain ⟨h1, h2, h3, h4⟩ := h
  subst h4
  have := c_fxquo hst (a := a) (b := b) (c := c) (d := d) (n := 0) h1 h2 h3 (by decide +kernel)
  have z : ∀ x y : Int, flQ x 0 y = 0 ∧ ceQ x 0 y = 0 := fun x y => by
    unfold flQ ceQ
    rw [Int.mul_zero, Int.zero_ediv]
    exact ⟨rfl, by rw [show (-0 : Int) = 0 from rfl, Int.zero_ediv]; rfl⟩
  have q1 : qL a b c d 0 = 0 := by unfold qL; rw [(z a c).1, (z a d).1, (z b c).1, (z b d).1]; rfl
  have q2 : qH a b c d 0 = 0 := by unfold qH; rw [(z a c).2, (z a d).2, (z b c).2, (z b d).2]; rfl
  have ok : okF a b c d 0 := by unfold okF; rw [q1, q2]; decide
  have e : quoAns a b c d 0 = trip 0 0 0 := by
    unfold quoAns
    rw [gate_t ok, gate_t ok, pick_t ok, q1, q2]
  rw [e] at this
  exact this
end
end Go.Proofs.YtjdcicjhpegphaaGreat
