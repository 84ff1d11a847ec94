/- The examples that TopTangents looks at: what is called. The examples that TopTangents looks at: what they ask. The examples that TopTangents looks at: contracts of what is called. -/
import Derived.Test.YtjdcicjhpegphaaGreatGg
import Derived.Test.YtjdcicjhpegphaaGreatGd
set_option linter.unusedSimpArgs false
set_option linter.unusedVariables false
namespace Go.Proofs.YtjdcicjhpegphaaGreat
open Go Go.Abs Go.RowKit Go.Sine
instance (a b : Int) : Decidable (FixO a b) := by unfold FixO; infer_instance
def PbA (k' k : Nat) (a b : Int) : Prop := k' = k ∧ ArcV a b
def PbO (k' k : Nat) (a b c d : Int) : Prop := k' = k ∧ FixO a b ∧ FixO c d
def vSn (k : Nat) (sl sh : Int → Int → Int) : FSpec := fun | [.pointer (some ⟨k', 0, none⟩), .agg ⟨[.int .i64 a, .int .i64 b]⟩] => some (PbA k' k a b, wid (sl a b) (sh a b)) | _ => none
def vMu (k : Nat) (ml mh : Int → Int → Int → Int → Int) : FSpec := fun | [.pointer (some ⟨k', 0, none⟩), .agg ⟨[.int .i64 a, .int .i64 b]⟩, .agg ⟨[.int .i64 c, .int .i64 d]⟩] => some (PbO k' k a b c d, wid (ml a b c d) (mh a b c d)) | _ => none
def vAd (k : Nat) : FSpec := fun | [.pointer (some ⟨k', 0, none⟩), .agg ⟨[.int .i64 a, .int .i64 b]⟩, .agg ⟨[.int .i64 c, .int .i64 d]⟩] => some (PbO k' k a b c d, wid (a + c) (b + d)) | _ => none
def vSb (k : Nat) : FSpec := fun | [.pointer (some ⟨k', 0, none⟩), .agg ⟨[.int .i64 a, .int .i64 b]⟩, .agg ⟨[.int .i64 c, .int .i64 d]⟩] => some (PbO k' k a b c d, wid (a - d) (b - c)) | _ => none
def HvOk (a b : Int) : Prop := a = b ∧ (a = 0 ∨ a = 3600000)
def hvI (a : Int) : Int := if a = 0 then 0 else 268435456
def sHav : FSpec := fun | [.agg ⟨[.int .i64 a, .int .i64 b]⟩] => some (HvOk a b, fxOk (hvI a) (hvI a)) | _ => none
def AhOk (a b : Int) : Prop := a = 268435456 ∧ b = 268435456
def sAhv : FSpec := fun | [.agg ⟨[.int .i64 a, .int .i64 b]⟩] => some (AhOk a b, fxOk 3600000 3600000) | _ => none
def sOne1 : FSpec := fun | [.int .i64 n] => some (True, wid n n) | _ => none
def sSgn : FSpec := fun | [.int .i64 n] => some (True, num (sgI n)) | _ => none
def ΓGc (k : Nat) (sl sh kl kh : Int → Int → Int) (ml mh zl zh : Int → Int → Int → Int → Int) : List (FuncId × CSpec) := [(73, .v (vSn k sl sh)), (74, .v (vSn k kl kh)), (72, .v (vMu k ml mh)), (80, .v (vAd k)), (75, .v (vSb k)), (78, .v (sKeep k)), (76, .v (sKeep k)), (71, .v sOne1), (63, .v sSgn), (77, .v (sBrg zl zh)), (79, .v sHav), (51, .v sAhv)]
def ΓHv : List (FuncId × CSpec) := [(124, .v sArcV), (125, .v sEnc), (126, .v sFurther)]
def ΓAh : List (FuncId × CSpec) := [(91, .v sFxValid), (92, .v sAtPart), (110, .v (sAsn asL asH))]
def PbZ (z : Int) : Prop := z = 0
end Go.Proofs.YtjdcicjhpegphaaGreat
namespace Go.Proofs.YtjdcicjhpegphaaGreat
open Go Go.Abs Go.RowKit Go.Sine
theorem vc_gcone (n : Int) (K : Value → Prop) : callsX Tryz.prog ([]) (noAnn) 71 [num n] K = (
 K (Value.agg #[Value.int IntKind.i64 n, Value.int IntKind.i64 n])) := by kernel_rfl
theorem vc_gccourse (k : Nat) (sl sh kl kh : Int → Int → Int) (ml mh zl zh : Int → Int → Int → Int → Int) (K : Value → Prop) : callsX Tryz.prog (ΓGc k sl sh kl kh ml mh zl zh) (noAnn) 42 [ptr k, wid 0 0, wid 0 3600000] K = (
 True ∧
 True ∧
 PbA k k (sgI (IntKind.i64.wrap (3600000 - 0))) (sgI (IntKind.i64.wrap (3600000 - 0))) ∧
 True ∧
 PbA k k 0 0 ∧
 PbO k k (sl (sgI (IntKind.i64.wrap (3600000 - 0))) (sgI (IntKind.i64.wrap (3600000 - 0)))) (sh (sgI (IntKind.i64.wrap (3600000 - 0))) (sgI (IntKind.i64.wrap (3600000 - 0)))) (kl 0 0) (kh 0 0) ∧
 True ∧
 PbA k k 0 0 ∧
 True ∧
 PbA k k 0 0 ∧
 PbO k k (kl 0 0) (kh 0 0) (sl 0 0) (sh 0 0) ∧
 True ∧
 PbA k k 0 0 ∧
 True ∧
 PbA k k 0 0 ∧
 PbO k k (sl 0 0) (sh 0 0) (kl 0 0) (kh 0 0) ∧
 PbA k k (sgI (IntKind.i64.wrap (3600000 - 0))) (sgI (IntKind.i64.wrap (3600000 - 0))) ∧
 PbO k k (ml (sl 0 0) (sh 0 0) (kl 0 0) (kh 0 0)) (mh (sl 0 0) (sh 0 0) (kl 0 0) (kh 0 0)) (kl (sgI (IntKind.i64.wrap (3600000 - 0))) (sgI (IntKind.i64.wrap (3600000 - 0)))) (kh (sgI (IntKind.i64.wrap (3600000 - 0))) (sgI (IntKind.i64.wrap (3600000 - 0)))) ∧
 PbO k k (ml (kl 0 0) (kh 0 0) (sl 0 0) (sh 0 0)) (mh (kl 0 0) (kh 0 0) (sl 0 0) (sh 0 0)) (ml (ml (sl 0 0) (sh 0 0) (kl 0 0) (kh 0 0)) (mh (sl 0 0) (sh 0 0) (kl 0 0) (kh 0 0)) (kl (sgI (IntKind.i64.wrap (3600000 - 0))) (sgI (IntKind.i64.wrap (3600000 - 0)))) (kh (sgI (IntKind.i64.wrap (3600000 - 0))) (sgI (IntKind.i64.wrap (3600000 - 0)))))
 (mh (ml (sl 0 0) (sh 0 0) (kl 0 0) (kh 0 0)) (mh (sl 0 0) (sh 0 0) (kl 0 0) (kh 0 0)) (kl (sgI (IntKind.i64.wrap (3600000 - 0))) (sgI (IntKind.i64.wrap (3600000 - 0)))) (kh (sgI (IntKind.i64.wrap (3600000 - 0))) (sgI (IntKind.i64.wrap (3600000 - 0))))) ∧
 BgOk (ml (sl (sgI (IntKind.i64.wrap (3600000 - 0))) (sgI (IntKind.i64.wrap (3600000 - 0)))) (sh (sgI (IntKind.i64.wrap (3600000 - 0))) (sgI (IntKind.i64.wrap (3600000 - 0)))) (kl 0 0) (kh 0 0)) (mh (sl (sgI (IntKind.i64.wrap (3600000 - 0))) (sgI (IntKind.i64.wrap (3600000 - 0)))) (sh (sgI (IntKind.i64.wrap (3600000 - 0))) (sgI (IntKind.i64.wrap (3600000 - 0)))) (kl 0 0) (kh 0 0))
 (ml (kl 0 0) (kh 0 0) (sl 0 0) (sh 0 0) - mh (ml (sl 0 0) (sh 0 0) (kl 0 0) (kh 0 0)) (mh (sl 0 0) (sh 0 0) (kl 0 0) (kh 0 0)) (kl (sgI (IntKind.i64.wrap (3600000 - 0))) (sgI (IntKind.i64.wrap (3600000 - 0)))) (kh (sgI (IntKind.i64.wrap (3600000 - 0))) (sgI (IntKind.i64.wrap (3600000 - 0)))))
 (mh (kl 0 0) (kh 0 0) (sl 0 0) (sh 0 0) - ml (ml (sl 0 0) (sh 0 0) (kl 0 0) (kh 0 0)) (mh (sl 0 0) (sh 0 0) (kl 0 0) (kh 0 0)) (kl (sgI (IntKind.i64.wrap (3600000 - 0))) (sgI (IntKind.i64.wrap (3600000 - 0)))) (kh (sgI (IntKind.i64.wrap (3600000 - 0))) (sgI (IntKind.i64.wrap (3600000 - 0))))) ∧
 KpOk k k 0 ∧
 K
 (Value.agg
 #[Value.int IntKind.i64
 (zl (ml (sl (sgI (IntKind.i64.wrap (3600000 - 0))) (sgI (IntKind.i64.wrap (3600000 - 0)))) (sh (sgI (IntKind.i64.wrap (3600000 - 0))) (sgI (IntKind.i64.wrap (3600000 - 0)))) (kl 0 0) (kh 0 0)) (mh (sl (sgI (IntKind.i64.wrap (3600000 - 0))) (sgI (IntKind.i64.wrap (3600000 - 0)))) (sh (sgI (IntKind.i64.wrap (3600000 - 0))) (sgI (IntKind.i64.wrap (3600000 - 0)))) (kl 0 0) (kh 0 0))
 (ml (kl 0 0) (kh 0 0) (sl 0 0) (sh 0 0) - mh (ml (sl 0 0) (sh 0 0) (kl 0 0) (kh 0 0)) (mh (sl 0 0) (sh 0 0) (kl 0 0) (kh 0 0)) (kl (sgI (IntKind.i64.wrap (3600000 - 0))) (sgI (IntKind.i64.wrap (3600000 - 0)))) (kh (sgI (IntKind.i64.wrap (3600000 - 0))) (sgI (IntKind.i64.wrap (3600000 - 0)))))
 (mh (kl 0 0) (kh 0 0) (sl 0 0) (sh 0 0) - ml (ml (sl 0 0) (sh 0 0) (kl 0 0) (kh 0 0)) (mh (sl 0 0) (sh 0 0) (kl 0 0) (kh 0 0)) (kl (sgI (IntKind.i64.wrap (3600000 - 0))) (sgI (IntKind.i64.wrap (3600000 - 0)))) (kh (sgI (IntKind.i64.wrap (3600000 - 0))) (sgI (IntKind.i64.wrap (3600000 - 0)))))),
 Value.int IntKind.i64
 (zh (ml (sl (sgI (IntKind.i64.wrap (3600000 - 0))) (sgI (IntKind.i64.wrap (3600000 - 0)))) (sh (sgI (IntKind.i64.wrap (3600000 - 0))) (sgI (IntKind.i64.wrap (3600000 - 0)))) (kl 0 0) (kh 0 0)) (mh (sl (sgI (IntKind.i64.wrap (3600000 - 0))) (sgI (IntKind.i64.wrap (3600000 - 0)))) (sh (sgI (IntKind.i64.wrap (3600000 - 0))) (sgI (IntKind.i64.wrap (3600000 - 0)))) (kl 0 0) (kh 0 0))
 (ml (kl 0 0) (kh 0 0) (sl 0 0) (sh 0 0) - mh (ml (sl 0 0) (sh 0 0) (kl 0 0) (kh 0 0)) (mh (sl 0 0) (sh 0 0) (kl 0 0) (kh 0 0)) (kl (sgI (IntKind.i64.wrap (3600000 - 0))) (sgI (IntKind.i64.wrap (3600000 - 0)))) (kh (sgI (IntKind.i64.wrap (3600000 - 0))) (sgI (IntKind.i64.wrap (3600000 - 0)))))
 (mh (kl 0 0) (kh 0 0) (sl 0 0) (sh 0 0) - ml (ml (sl 0 0) (sh 0 0) (kl 0 0) (kh 0 0)) (mh (sl 0 0) (sh 0 0) (kl 0 0) (kh 0 0)) (kl (sgI (IntKind.i64.wrap (3600000 - 0))) (sgI (IntKind.i64.wrap (3600000 - 0)))) (kh (sgI (IntKind.i64.wrap (3600000 - 0))) (sgI (IntKind.i64.wrap (3600000 - 0))))))])) := by kernel_rfl
theorem vc_gcdistance (k : Nat) (sl sh kl kh : Int → Int → Int) (ml mh zl zh : Int → Int → Int → Int → Int) (K : Value → Prop) : callsX Tryz.prog (ΓGc k sl sh kl kh ml mh zl zh) (noAnn) 43 [ptr k, wid 0 0, wid 0 3600000] K = (
 True ∧
 True ∧
 PbA k k 0 0 ∧
 True ∧
 PbA k k 0 0 ∧
 PbO k k (kl 0 0) (kh 0 0) (kl 0 0) (kh 0 0) ∧
 True ∧
 HvOk (sgI (IntKind.i64.wrap (3600000 - 0))) (sgI (IntKind.i64.wrap (3600000 - 0))) ∧
 KpOk k k 0 ∧
 PbO k k (ml (kl 0 0) (kh 0 0) (kl 0 0) (kh 0 0)) (mh (kl 0 0) (kh 0 0) (kl 0 0) (kh 0 0)) (hvI (sgI (IntKind.i64.wrap (3600000 - 0)))) (hvI (sgI (IntKind.i64.wrap (3600000 - 0)))) ∧
 True ∧
 HvOk (IntKind.i64.wrap (0 - 0)) (IntKind.i64.wrap (0 - 0)) ∧
 KpOk k k 0 ∧
 PbO k k (hvI (IntKind.i64.wrap (0 - 0))) (hvI (IntKind.i64.wrap (0 - 0))) (ml (ml (kl 0 0) (kh 0 0) (kl 0 0) (kh 0 0)) (mh (kl 0 0) (kh 0 0) (kl 0 0) (kh 0 0)) (hvI (sgI (IntKind.i64.wrap (3600000 - 0)))) (hvI (sgI (IntKind.i64.wrap (3600000 - 0)))))
 (mh (ml (kl 0 0) (kh 0 0) (kl 0 0) (kh 0 0)) (mh (kl 0 0) (kh 0 0) (kl 0 0) (kh 0 0)) (hvI (sgI (IntKind.i64.wrap (3600000 - 0)))) (hvI (sgI (IntKind.i64.wrap (3600000 - 0))))) ∧
 AhOk (hvI (IntKind.i64.wrap (0 - 0)) + ml (ml (kl 0 0) (kh 0 0) (kl 0 0) (kh 0 0)) (mh (kl 0 0) (kh 0 0) (kl 0 0) (kh 0 0)) (hvI (sgI (IntKind.i64.wrap (3600000 - 0)))) (hvI (sgI (IntKind.i64.wrap (3600000 - 0)))))
 (hvI (IntKind.i64.wrap (0 - 0)) + mh (ml (kl 0 0) (kh 0 0) (kl 0 0) (kh 0 0)) (mh (kl 0 0) (kh 0 0) (kl 0 0) (kh 0 0)) (hvI (sgI (IntKind.i64.wrap (3600000 - 0)))) (hvI (sgI (IntKind.i64.wrap (3600000 - 0))))) ∧
 KpOk k k 0 ∧ K (Value.agg #[Value.int IntKind.i64 3600000, Value.int IntKind.i64 3600000])) := by kernel_rfl
theorem vc_trhav (a b : Int) (K : Value → Prop) : callsX Tryz.prog (ΓHv) (noAnn) 79 [wid a b] K = (
 True ∧
 bcase (!decide (ArcV a b)) (K (Value.tuple #[Value.agg #[Value.int IntKind.i64 0, Value.int IntKind.i64 0], Value.int IntKind.i64 1]))
 ((Q41 a ∧ Q41 b) ∧ (Q41 (a + 5400000) ∧ Q41 (b + 5400000) ∧ a + 5400000 ≤ b + 5400000) ∧ K (Value.tuple #[Value.agg #[Value.int IntKind.i64 ((IntKind.i64.wrap (1073741824 - encH (a + 5400000) (b + 5400000))).fdiv (2 ^ 1)), Value.int IntKind.i64 ((IntKind.i64.wrap (IntKind.i64.wrap (1073741824 - encL (a + 5400000) (b + 5400000)) + 1)).fdiv (2 ^ 1))], Value.int IntKind.i64 0]))) := by kernel_rfl
theorem vc_atahav (a b : Int) (K : Value → Prop) : callsX Tryz.prog (ΓAh) (noAnn) 51 [wid a b] K = (
 True ∧
 bcase (!decide (FixV a b)) (K (Value.tuple #[Value.agg #[Value.int IntKind.i64 0, Value.int IntKind.i64 0], Value.int IntKind.i64 1]))
 (True ∧
 bcase (!decide (max a 0 ≤ min b 1073741824)) (K (Value.tuple #[Value.agg #[Value.int IntKind.i64 0, Value.int IntKind.i64 0], Value.int IntKind.i64 2]))
 (AsOk (IntKind.i64.wrap (1073741824 - IntKind.i64.wrap (2 * min b 1073741824))) (IntKind.i64.wrap (1073741824 - IntKind.i64.wrap (2 * max a 0))) ∧
 K (Value.tuple #[Value.agg #[Value.int IntKind.i64 (IntKind.i64.wrap (5400000 - asH (IntKind.i64.wrap (1073741824 - IntKind.i64.wrap (2 * max a 0))))), Value.int IntKind.i64 (IntKind.i64.wrap (5400000 - asL (IntKind.i64.wrap (1073741824 - IntKind.i64.wrap (2 * min b 1073741824)))))], Value.int IntKind.i64 0])))) := by kernel_rfl
end Go.Proofs.YtjdcicjhpegphaaGreat
namespace Go.Proofs.YtjdcicjhpegphaaGreat
open Go Go.Abs Go.RowKit Go.Sine
section
variable {Φ : World → Prop} (hst : ∀ w w', Φ w → Below w.heap.size w w' → Φ w')
include hst
theorem c_gcone (n : Int) : Ans Tryz.prog Φ 71 [num n] (wid n n) := fn_by hst Sound.nil (vc_gcone n _) rfl
theorem c_trhav {a b : Int} (h : HvOk a b) : Ans Tryz.prog Φ 79 [wid a b] (fxOk (hvI a) (hvI a)) := by
  obtain ⟨h1, h2⟩ := h
  subst h1
  refine fn_by hst (s_E6 hst) (vc_trhav a a _) ?_
  rcases h2 with e | e
  · subst e
    rw [show decide (ArcV 0 0) = true from by decide +kernel, show (IntKind.i64.wrap (1073741824 - encH (0 + 5400000) (0 + 5400000))).fdiv (2 ^ 1) = hvI 0 from by decide +kernel, show (IntKind.i64.wrap (IntKind.i64.wrap (1073741824 - encL (0 + 5400000) (0 + 5400000)) + 1)).fdiv (2 ^ 1) = hvI 0 from by decide +kernel]
    exact ⟨trivial, ⟨by unfold Q41; decide, by unfold Q41; decide⟩, ⟨by unfold Q41; decide, by unfold Q41; decide, by decide⟩, rfl⟩
  · subst e
    rw [show decide (ArcV 3600000 3600000) = true from by decide +kernel, show (IntKind.i64.wrap (1073741824 - encH (3600000 + 5400000) (3600000 + 5400000))).fdiv (2 ^ 1) = hvI 3600000 from by decide +kernel, show (IntKind.i64.wrap (IntKind.i64.wrap (1073741824 - encL (3600000 + 5400000) (3600000 + 5400000)) + 1)).fdiv (2 ^ 1) = hvI 3600000 from by decide +kernel]
    exact ⟨trivial, ⟨by unfold Q41; decide, by unfold Q41; decide⟩, ⟨by unfold Q41; decide, by unfold Q41; decide, by decide⟩, rfl⟩
theorem s_Ah : Sound Tryz.prog Φ ΓAh :=
  Sound.cons (by kernel_rfl) (fun args p v h hp => by unfold sFxValid at h; split at h <;> cases h; exact c_fxvalid hst _ _)
  (Sound.cons (by kernel_rfl) (fun args p v h hp => by unfold sAtPart at h; split at h <;> cases h; exact c_atpart hst _ _ _ _)
  (Sound.cons (by kernel_rfl) (fun args p v h hp => by unfold sAsn at h; split at h <;> cases h; exact c_atasin hst hp.1 hp.2.1 hp.2.2) Sound.nil))
theorem c_atahav {a b : Int} (h : AhOk a b) : Ans Tryz.prog Φ 51 [wid a b] (fxOk 3600000 3600000) := by
  obtain ⟨h1, h2⟩ := h
  subst h1 h2
  refine fn_by hst (s_Ah hst) (vc_atahav 268435456 268435456 _) ?_
  rw [show decide (FixV 268435456 268435456) = true from by decide +kernel, show decide (max (268435456 : Int) 0 ≤ min 268435456 1073741824) = true from by decide +kernel, show IntKind.i64.wrap (1073741824 - IntKind.i64.wrap (2 * min (268435456 : Int) 1073741824)) = 536870912 from by decide +kernel, show IntKind.i64.wrap (1073741824 - IntKind.i64.wrap (2 * max (268435456 : Int) 0)) = 536870912 from by decide +kernel, show IntKind.i64.wrap (5400000 - asH 536870912) = 3600000 from by decide +kernel, show IntKind.i64.wrap (5400000 - asL 536870912) = 3600000 from by decide +kernel]
  exact ⟨trivial, trivial, ⟨by decide +kernel, by decide, by decide⟩, rfl⟩
theorem s_Gc (k : Nat) (T : TypeId) : Sound Tryz.prog (Zc Φ k T) (ΓGc k encL encH cL cH muL muH bL bH) :=
  Sound.cons (by kernel_rfl) (fun args p v h hp => by unfold vSn at h; split at h <;> cases h; obtain ⟨h1, h2⟩ := hp; subst h1; exact m_gcsin hst h2)
  (Sound.cons (by kernel_rfl) (fun args p v h hp => by unfold vSn at h; split at h <;> cases h; obtain ⟨h1, h2⟩ := hp; subst h1; exact m_gccos hst h2)
  (Sound.cons (by kernel_rfl) (fun args p v h hp => by unfold vMu at h; split at h <;> cases h; obtain ⟨h1, h2⟩ := hp; subst h1; exact m_gcmul hst h2)
  (Sound.cons (by kernel_rfl) (fun args p v h hp => by unfold vAd at h; split at h <;> cases h; obtain ⟨h1, h2⟩ := hp; subst h1; exact m_gcadd hst h2)
  (Sound.cons (by kernel_rfl) (fun args p v h hp => by unfold vSb at h; split at h <;> cases h; obtain ⟨h1, h2⟩ := hp; subst h1; exact m_gcsub hst h2)
  (Sound.cons (by kernel_rfl) (fun args p v h hp => by unfold sKeep at h; split at h <;> cases h; obtain ⟨h1, h2⟩ := hp; subst h1 h2; exact c_numb _ _)
  (Sound.cons (by kernel_rfl) (fun args p v h hp => by unfold sKeep at h; split at h <;> cases h; obtain ⟨h1, h2⟩ := hp; subst h1 h2; exact c_arcg _ _)
  (Sound.cons (by kernel_rfl) (fun args p v h hp => by unfold sOne1 at h; split at h <;> cases h; exact c_gcone (zc_below hst k T) _)
  (Sound.cons (by kernel_rfl) (fun args p v h hp => by unfold sSgn at h; split at h <;> cases h; exact c_ansigned (zc_below hst k T) _)
  (Sound.cons (by kernel_rfl) (fun args p v h hp => by unfold sBrg at h; split at h <;> cases h; exact c_atbearing (zc_below hst k T) hp.1 hp.2)
  (Sound.cons (by kernel_rfl) (fun args p v h hp => by unfold sHav at h; split at h <;> cases h; exact c_trhav (zc_below hst k T) hp)
  (Sound.cons (by kernel_rfl) (fun args p v h hp => by unfold sAhv at h; split at h <;> cases h; exact c_atahav (zc_below hst k T) hp) Sound.nil)))))))))))
theorem m_gcdistance (k : Nat) (T : TypeId) : Ans Tryz.prog (Zc Φ k T) 43 [ptr k, wid 0 0, wid 0 3600000] (wid 3600000 3600000) :=
  fn_by (zc_below hst k T) (s_Gc hst k T) (vc_gcdistance k encL encH cL cH muL muH bL bH _)
    ⟨trivial, trivial, ⟨rfl, by decide +kernel⟩, trivial, ⟨rfl, by decide +kernel⟩, ⟨rfl, by decide +kernel, by decide +kernel⟩, trivial, ⟨rfl, .inr (by decide +kernel)⟩, ⟨rfl, rfl⟩, ⟨rfl, by decide +kernel, by decide +kernel⟩, trivial, ⟨rfl, .inl (by decide +kernel)⟩, ⟨rfl, rfl⟩, ⟨rfl, by decide +kernel, by decide +kernel⟩, ⟨by decide +kernel, by decide +kernel⟩, ⟨rfl, rfl⟩, rfl⟩
end
theorem m_gccourse : ∃ X Y : Int, ∀ {Φ : World → Prop} (hst : ∀ w w', Φ w → Below w.heap.size w w' → Φ w') (k : Nat) (T : TypeId), Ans Tryz.prog (Zc Φ k T) 42 [ptr k, wid 0 0, wid 0 3600000] (wid X Y) :=
  ⟨_, _, fun hst k T => fn_by (zc_below hst k T) (s_Gc hst k T) (vc_gccourse k encL encH cL cH muL muH bL bH _)
    ⟨trivial, trivial, ⟨rfl, by decide +kernel⟩, trivial, ⟨rfl, by decide +kernel⟩, ⟨rfl, by decide +kernel, by decide +kernel⟩, trivial, ⟨rfl, by decide +kernel⟩, trivial, ⟨rfl, by decide +kernel⟩, ⟨rfl, by decide +kernel, by decide +kernel⟩, trivial, ⟨rfl, by decide +kernel⟩, trivial, ⟨rfl, by decide +kernel⟩, ⟨rfl, by decide +kernel, by decide +kernel⟩, ⟨rfl, by decide +kernel⟩, ⟨rfl, by decide +kernel, by decide +kernel⟩, ⟨rfl, by decide +kernel, by decide +kernel⟩, ⟨by decide +kernel, by decide +kernel⟩, ⟨rfl, rfl⟩, rfl⟩⟩
end Go.Proofs.YtjdcicjhpegphaaGreat
