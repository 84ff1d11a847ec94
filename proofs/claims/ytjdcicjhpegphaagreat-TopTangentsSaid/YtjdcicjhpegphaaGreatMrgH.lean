/- Several texts in one: CkS, CkV, CkC, CsS, CsV, FixT, FixU, FixD, FixE, FixF, FixG, CsC. -/
import Derived.Test.YtjdcicjhpegphaaGreatMrgA
import Derived.Test.YtjdcicjhpegphaaGreatMrgD
import Derived.Test.YtjdcicjhpegphaaGreatMrgG
/- Operations that keep the first error: what they answer. -/
namespace Go.Proofs.YtjdcicjhpegphaaGreat
open Go Go.Abs Go.RowKit Go.Sine
set_option linter.unusedVariables false
def KpOk (b' b : Nat) (e : Int) : Prop := b' = b ∧ e = 0
def PbOk (b' b : Nat) : Prop := b' = b
def sKeep (b : Nat) : FSpec := fun | [.pointer (some ⟨b', 0, none⟩), .agg ⟨[.int .i64 lo, .int .i64 hi]⟩, .int .i64 e] => some (KpOk b' b e, wid lo hi) | _ => none
def sTrSin (sl sh : Int → Int → Int) : FSpec := fun | [.agg ⟨[.int .i64 a, .int .i64 b]⟩] => some (ArcV a b, fxOk (sl a b) (sh a b)) | _ => none
def ΓCk (b : Nat) : List (FuncId × CSpec) := [(137, .v (sKeep b)), (78, .v (sKeep b)), (76, .v (sKeep b)), (69, .v (sKeep b)), (84, .v (sMulO muL muH)), (127, .v sAddO), (121, .v sSubO), (146, .v sNegO), (85, .v (sTrSin encL encH)), (94, .v (sTrSin cL cH)), (68, .v sAnSub)]
end Go.Proofs.YtjdcicjhpegphaaGreat

/- Operations that keep the first error: what they ask. -/
namespace Go.Proofs.YtjdcicjhpegphaaGreat
open Go Go.Abs Go.RowKit Go.Sine
set_option linter.unusedVariables false
set_option linter.unusedSimpArgs false
theorem vc_cssin (k : Nat) (a b : Int) (K : Value → Prop) : callsX Tryz.prog (ΓCk k) (noAnn) 135 [ptr k, wid a b] K = (
 ArcV a b ∧ KpOk k k 0 ∧ K (Value.agg #[Value.int IntKind.i64 (encL a b), Value.int IntKind.i64 (encH a b)])) := by kernel_rfl
theorem vc_cscos (k : Nat) (a b : Int) (K : Value → Prop) : callsX Tryz.prog (ΓCk k) (noAnn) 136 [ptr k, wid a b] K = (
 ArcV a b ∧ KpOk k k 0 ∧ K (Value.agg #[Value.int IntKind.i64 (cL a b), Value.int IntKind.i64 (cH a b)])) := by kernel_rfl
theorem vc_csmul (k : Nat) (a b c d : Int) (K : Value → Prop) : callsX Tryz.prog (ΓCk k) (noAnn) 109 [ptr k, wid a b, wid c d] K = (
 (FixO a b ∧ FixO c d) ∧ KpOk k k 0 ∧ K (Value.agg #[Value.int IntKind.i64 (muL a b c d), Value.int IntKind.i64 (muH a b c d)])) := by kernel_rfl
theorem vc_csadd (k : Nat) (a b c d : Int) (K : Value → Prop) : callsX Tryz.prog (ΓCk k) (noAnn) 108 [ptr k, wid a b, wid c d] K = (
 (FixO a b ∧ FixO c d) ∧ KpOk k k 0 ∧ K (Value.agg #[Value.int IntKind.i64 (a + c), Value.int IntKind.i64 (b + d)])) := by kernel_rfl
theorem vc_cssub (k : Nat) (a b c d : Int) (K : Value → Prop) : callsX Tryz.prog (ΓCk k) (noAnn) 120 [ptr k, wid a b, wid c d] K = (
 (FixO a b ∧ FixO c d) ∧ KpOk k k 0 ∧ K (Value.agg #[Value.int IntKind.i64 (a - d), Value.int IntKind.i64 (b - c)])) := by kernel_rfl
theorem vc_csneg (k : Nat) (a b : Int) (K : Value → Prop) : callsX Tryz.prog (ΓCk k) (noAnn) 119 [ptr k, wid a b] K = (
 FixV a b ∧ KpOk k k 0 ∧ K (Value.agg #[Value.int IntKind.i64 (-b), Value.int IntKind.i64 (-a)])) := by kernel_rfl
theorem vc_ciless (k : Nat) (a b c d : Int) (K : Value → Prop) : callsX Tryz.prog (ΓCk k) (noAnn) 33 [ptr k, wid a b, wid c d] K = (
 SbOk a b c d ∧ KpOk k k 0 ∧ K (Value.agg #[Value.int IntKind.i64 (a - d), Value.int IntKind.i64 (b - c)])) := by kernel_rfl
theorem vc_gcsin (k : Nat) (a b : Int) (K : Value → Prop) : callsX Tryz.prog (ΓCk k) (noAnn) 73 [ptr k, wid a b] K = (
 ArcV a b ∧ KpOk k k 0 ∧ K (Value.agg #[Value.int IntKind.i64 (encL a b), Value.int IntKind.i64 (encH a b)])) := by kernel_rfl
theorem vc_gccos (k : Nat) (a b : Int) (K : Value → Prop) : callsX Tryz.prog (ΓCk k) (noAnn) 74 [ptr k, wid a b] K = (
 ArcV a b ∧ KpOk k k 0 ∧ K (Value.agg #[Value.int IntKind.i64 (cL a b), Value.int IntKind.i64 (cH a b)])) := by kernel_rfl
theorem vc_gcmul (k : Nat) (a b c d : Int) (K : Value → Prop) : callsX Tryz.prog (ΓCk k) (noAnn) 72 [ptr k, wid a b, wid c d] K = (
 (FixO a b ∧ FixO c d) ∧ KpOk k k 0 ∧ K (Value.agg #[Value.int IntKind.i64 (muL a b c d), Value.int IntKind.i64 (muH a b c d)])) := by kernel_rfl
theorem vc_gcadd (k : Nat) (a b c d : Int) (K : Value → Prop) : callsX Tryz.prog (ΓCk k) (noAnn) 80 [ptr k, wid a b, wid c d] K = (
 (FixO a b ∧ FixO c d) ∧ KpOk k k 0 ∧ K (Value.agg #[Value.int IntKind.i64 (a + c), Value.int IntKind.i64 (b + d)])) := by kernel_rfl
theorem vc_gcsub (k : Nat) (a b c d : Int) (K : Value → Prop) : callsX Tryz.prog (ΓCk k) (noAnn) 75 [ptr k, wid a b, wid c d] K = (
 (FixO a b ∧ FixO c d) ∧ KpOk k k 0 ∧ K (Value.agg #[Value.int IntKind.i64 (a - d), Value.int IntKind.i64 (b - c)])) := by kernel_rfl
end Go.Proofs.YtjdcicjhpegphaaGreat

/- Operations that keep the first error: contracts. -/
namespace Go.Proofs.YtjdcicjhpegphaaGreat
open Go Go.Abs Go.RowKit Go.Sine
set_option linter.unusedVariables false
set_option linter.unusedSimpArgs false
theorem mu_v {a b c d : Int} (h : FixO a b ∧ FixO c d) : FixV (muL a b c d) (muH a b c d) := (mu_ok h.1 h.2).v
variable {Φ : World → Prop} (hst : ∀ w w', Φ w → Below w.heap.size w w' → Φ w')
include hst
theorem t_sin {a b : Int} (h : ArcV a b) : Ans Tryz.prog Φ 85 [wid a b] (fxOk (encL a b) (encH a b)) := by
  have := c_trSin hst a b
  rw [if_pos h] at this
  exact this
theorem t_cos {a b : Int} (h : ArcV a b) : Ans Tryz.prog Φ 94 [wid a b] (fxOk (cL a b) (cH a b)) := by
  have := c_trCos hst a b
  rw [if_pos h] at this
  exact this
theorem s_Ck (k : Nat) (T : TypeId) : Sound Tryz.prog (Zc Φ k T) (ΓCk k) :=
  Sound.cons (by kernel_rfl) (fun args p v h hp => by unfold sKeep at h; split at h <;> cases h; obtain ⟨h1, h2⟩ := hp; subst h1 h2; exact c_keep _ _)
  (Sound.cons (by kernel_rfl) (fun args p v h hp => by unfold sKeep at h; split at h <;> cases h; obtain ⟨h1, h2⟩ := hp; subst h1 h2; exact c_numb _ _)
  (Sound.cons (by kernel_rfl) (fun args p v h hp => by unfold sKeep at h; split at h <;> cases h; obtain ⟨h1, h2⟩ := hp; subst h1 h2; exact c_arcg _ _)
  (Sound.cons (by kernel_rfl) (fun args p v h hp => by unfold sKeep at h; split at h <;> cases h; obtain ⟨h1, h2⟩ := hp; subst h1 h2; exact c_kept _ _)
  (Sound.cons (by kernel_rfl) (fun args p v h hp => by unfold sMulO at h; split at h <;> cases h; exact c_fxmul (zc_below hst k T) hp)
  (Sound.cons (by kernel_rfl) (fun args p v h hp => by unfold sAddO at h; split at h <;> cases h; exact c_fxadd (zc_below hst k T) hp)
  (Sound.cons (by kernel_rfl) (fun args p v h hp => by unfold sSubO at h; split at h <;> cases h; exact c_fxsub (zc_below hst k T) hp)
  (Sound.cons (by kernel_rfl) (fun args p v h hp => by unfold sNegO at h; split at h <;> cases h; exact c_fxneg (zc_below hst k T) hp)
  (Sound.cons (by kernel_rfl) (fun args p v h hp => by unfold sTrSin at h; split at h <;> cases h; exact t_sin (zc_below hst k T) hp)
  (Sound.cons (by kernel_rfl) (fun args p v h hp => by unfold sTrSin at h; split at h <;> cases h; exact t_cos (zc_below hst k T) hp)
  (Sound.cons (by kernel_rfl) (fun args p v h hp => by unfold sAnSub at h; split at h <;> cases h; exact c_ansub (zc_below hst k T) hp) Sound.nil))))))))))
theorem m_cssin {k : Nat} {T : TypeId} {a b : Int} (h : ArcV a b) : Ans Tryz.prog (Zc Φ k T) 135 [ptr k, wid a b] (wid (encL a b) (encH a b)) :=
  fn_by (zc_below hst k T) (s_Ck hst k T) (vc_cssin k a b _) ⟨h, ⟨rfl, rfl⟩, rfl⟩
theorem m_cscos {k : Nat} {T : TypeId} {a b : Int} (h : ArcV a b) : Ans Tryz.prog (Zc Φ k T) 136 [ptr k, wid a b] (wid (cL a b) (cH a b)) :=
  fn_by (zc_below hst k T) (s_Ck hst k T) (vc_cscos k a b _) ⟨h, ⟨rfl, rfl⟩, rfl⟩
theorem m_csmul {k : Nat} {T : TypeId} {a b c d : Int} (h : FixO a b ∧ FixO c d) : Ans Tryz.prog (Zc Φ k T) 109 [ptr k, wid a b, wid c d] (wid (muL a b c d) (muH a b c d)) :=
  fn_by (zc_below hst k T) (s_Ck hst k T) (vc_csmul k a b c d _) ⟨h, ⟨rfl, rfl⟩, rfl⟩
theorem m_csadd {k : Nat} {T : TypeId} {a b c d : Int} (h : FixO a b ∧ FixO c d) : Ans Tryz.prog (Zc Φ k T) 108 [ptr k, wid a b, wid c d] (wid (a + c) (b + d)) :=
  fn_by (zc_below hst k T) (s_Ck hst k T) (vc_csadd k a b c d _) ⟨h, ⟨rfl, rfl⟩, rfl⟩
theorem m_cssub {k : Nat} {T : TypeId} {a b c d : Int} (h : FixO a b ∧ FixO c d) : Ans Tryz.prog (Zc Φ k T) 120 [ptr k, wid a b, wid c d] (wid (a - d) (b - c)) :=
  fn_by (zc_below hst k T) (s_Ck hst k T) (vc_cssub k a b c d _) ⟨h, ⟨rfl, rfl⟩, rfl⟩
theorem m_csneg {k : Nat} {T : TypeId} {a b : Int} (h : FixV a b) : Ans Tryz.prog (Zc Φ k T) 119 [ptr k, wid a b] (wid (-b) (-a)) :=
  fn_by (zc_below hst k T) (s_Ck hst k T) (vc_csneg k a b _) ⟨h, ⟨rfl, rfl⟩, rfl⟩
theorem m_gcsin {k : Nat} {T : TypeId} {a b : Int} (h : ArcV a b) : Ans Tryz.prog (Zc Φ k T) 73 [ptr k, wid a b] (wid (encL a b) (encH a b)) :=
  fn_by (zc_below hst k T) (s_Ck hst k T) (vc_gcsin k a b _) ⟨h, ⟨rfl, rfl⟩, rfl⟩
theorem m_gccos {k : Nat} {T : TypeId} {a b : Int} (h : ArcV a b) : Ans Tryz.prog (Zc Φ k T) 74 [ptr k, wid a b] (wid (cL a b) (cH a b)) :=
  fn_by (zc_below hst k T) (s_Ck hst k T) (vc_gccos k a b _) ⟨h, ⟨rfl, rfl⟩, rfl⟩
theorem m_gcmul {k : Nat} {T : TypeId} {a b c d : Int} (h : FixO a b ∧ FixO c d) : Ans Tryz.prog (Zc Φ k T) 72 [ptr k, wid a b, wid c d] (wid (muL a b c d) (muH a b c d)) :=
  fn_by (zc_below hst k T) (s_Ck hst k T) (vc_gcmul k a b c d _) ⟨h, ⟨rfl, rfl⟩, rfl⟩
theorem m_gcadd {k : Nat} {T : TypeId} {a b c d : Int} (h : FixO a b ∧ FixO c d) : Ans Tryz.prog (Zc Φ k T) 80 [ptr k, wid a b, wid c d] (wid (a + c) (b + d)) :=
  fn_by (zc_below hst k T) (s_Ck hst k T) (vc_gcadd k a b c d _) ⟨h, ⟨rfl, rfl⟩, rfl⟩
theorem m_gcsub {k : Nat} {T : TypeId} {a b c d : Int} (h : FixO a b ∧ FixO c d) : Ans Tryz.prog (Zc Φ k T) 75 [ptr k, wid a b, wid c d] (wid (a - d) (b - c)) :=
  fn_by (zc_below hst k T) (s_Ck hst k T) (vc_gcsub k a b c d _) ⟨h, ⟨rfl, rfl⟩, rfl⟩
theorem m_ciless {k : Nat} {T : TypeId} {a b c d : Int} (h : SbOk a b c d) : Ans Tryz.prog (Zc Φ k T) 33 [ptr k, wid a b, wid c d] (wid (a - d) (b - c)) :=
  fn_by (zc_below hst k T) (s_Ck hst k T) (vc_ciless k a b c d _) ⟨h, ⟨rfl, rfl⟩, rfl⟩
end Go.Proofs.YtjdcicjhpegphaaGreat

/- The reduction of a sight: what the functions answer. -/
namespace Go.Proofs.YtjdcicjhpegphaaGreat
open Go Go.Abs Go.RowKit Go.Sine
set_option linter.unusedVariables false
/-- Operations on intervals. -/
def mulP (p q : Int × Int) : Int × Int := (muL p.1 p.2 q.1 q.2, muH p.1 p.2 q.1 q.2)
def addP (p q : Int × Int) : Int × Int := (p.1 + q.1, p.2 + q.2)
def subP (p q : Int × Int) : Int × Int := (p.1 - q.2, p.2 - q.1)
def negP (p : Int × Int) : Int × Int := (-p.2, -p.1)
def sinT (a b : Int) : Int × Int := (encL a b, encH a b)
def cosT (a b : Int) : Int × Int := (cL a b, cH a b)
/-- The sine of the altitude; the box of the azimuth. -/
def sAl (l l' d d' h h' : Int) : Int × Int := addP (mulP (sinT l l') (sinT d d')) (mulP (mulP (cosT l l') (cosT d d')) (cosT h h'))
def yAz (l l' d d' h h' : Int) : Int × Int := negP (mulP (cosT d d') (sinT h h'))
def xAz (l l' d d' h h' : Int) : Int × Int := subP (mulP (sinT d d') (cosT l l')) (mulP (mulP (cosT d d') (cosT h h')) (sinT l l'))
def asL (a : Int) : Int := asnI (max a (-1073741824))
def asH (b : Int) : Int := -asnI (-min b 1073741824)
def hL (l l' d d' h h' : Int) : Int := asL (sAl l l' d d' h h').1
def hH (l l' d d' h h' : Int) : Int := asH (sAl l l' d d' h h').2
def zL (l l' d d' h h' : Int) : Int := bL (yAz l l' d d' h h').1 (yAz l l' d d' h h').2 (xAz l l' d d' h h').1 (xAz l l' d d' h h').2
def zH (l l' d d' h h' : Int) : Int := bH (yAz l l' d d' h h').1 (yAz l l' d d' h h').2 (xAz l l' d d' h h').1 (xAz l l' d d' h h').2
/-- A valid triangle. -/
def TrV (l l' d d' h h' : Int) : Prop := LatV l l' ∧ LatV d d' ∧ ArcV h h'
instance (l l' d d' h h' : Int) : Decidable (TrV l l' d d' h h') := by unfold TrV; infer_instance
/-- The specs of the methods. -/
def ZA (z a b : Int) : Prop := z = 0 ∧ ArcV a b
def ZO2 (z a b c d : Int) : Prop := z = 0 ∧ FixO a b ∧ FixO c d
def ZV (z a b : Int) : Prop := z = 0 ∧ FixV a b
def pSn (sl sh : Int → Int → Int) : PSpec := fun | [.agg ⟨[.int .i64 a, .int .i64 b]⟩], [.int .i64 z] => some (ZA z a b, wid (sl a b) (sh a b)) | _, _ => none
def pMu (ml mh : Int → Int → Int → Int → Int) : PSpec := fun | [.agg ⟨[.int .i64 a, .int .i64 b]⟩, .agg ⟨[.int .i64 c, .int .i64 d]⟩], [.int .i64 z] => some (ZO2 z a b c d, wid (ml a b c d) (mh a b c d)) | _, _ => none
def pAd : PSpec := fun | [.agg ⟨[.int .i64 a, .int .i64 b]⟩, .agg ⟨[.int .i64 c, .int .i64 d]⟩], [.int .i64 z] => some (ZO2 z a b c d, wid (a + c) (b + d)) | _, _ => none
def pSb : PSpec := fun | [.agg ⟨[.int .i64 a, .int .i64 b]⟩, .agg ⟨[.int .i64 c, .int .i64 d]⟩], [.int .i64 z] => some (ZO2 z a b c d, wid (a - d) (b - c)) | _, _ => none
def pNg : PSpec := fun | [.agg ⟨[.int .i64 a, .int .i64 b]⟩], [.int .i64 z] => some (ZV z a b, wid (-b) (-a)) | _, _ => none
def AsOk (a b : Int) : Prop := FixV a b ∧ a ≤ 1073741824 ∧ -1073741824 ≤ b
def sAsn (al ah : Int → Int) : FSpec := fun | [.agg ⟨[.int .i64 a, .int .i64 b]⟩] => some (AsOk a b, fxOk (al a) (ah b)) | _ => none
def BgOk (a b c d : Int) : Prop := FixV a b ∧ FixV c d
def sBrg (zl zh : Int → Int → Int → Int → Int) : FSpec := fun | [.agg ⟨[.int .i64 a, .int .i64 b]⟩, .agg ⟨[.int .i64 c, .int .i64 d]⟩] => some (BgOk a b c d, fxOk (zl a b c d) (zh a b c d)) | _ => none
def ΓCs (sl sh kl kh : Int → Int → Int) (ml mh zl zh : Int → Int → Int → Int → Int) (al ah : Int → Int) : List (FuncId × CSpec) := [(135, .p (pSn sl sh)), (136, .p (pSn kl kh)), (109, .p (pMu ml mh)), (108, .p pAd), (120, .p pSb), (119, .p pNg), (110, .v (sAsn al ah)), (77, .v (sBrg zl zh))]
abbrev tri6 (l l' d d' h h' : Int) : Value := .agg ⟨[.int .i64 l, .int .i64 l', .int .i64 d, .int .i64 d', .int .i64 h, .int .i64 h']⟩
abbrev arc4 (a b c d : Int) : Value := .agg ⟨[.int .i64 a, .int .i64 b, .int .i64 c, .int .i64 d]⟩
def sTri (p : Int → Int → Int → Int → Int → Int → Prop) (f g : Int → Int → Int → Int → Int → Int → Int) : FSpec := fun | [.agg ⟨[.int .i64 l, .int .i64 l', .int .i64 d, .int .i64 d', .int .i64 h, .int .i64 h']⟩] => some (p l l' d d' h h', fxOk (f l l' d d' h h') (g l l' d d' h h')) | _ => none
def sTrV : FSpec := fun | [.agg ⟨[.int .i64 l, .int .i64 l', .int .i64 d, .int .i64 d', .int .i64 h, .int .i64 h']⟩] => some (True, .bool (decide (TrV l l' d d' h h'))) | _ => none
def ΓCt : List (FuncId × CSpec) := [(106, .v sLatV), (26, .v sAnValid)]
def ΓCu (f g z u : Int → Int → Int → Int → Int → Int → Int) : List (FuncId × CSpec) := [(64, .v sTrV), (65, .v (sTri TrV f g)), (70, .v (sTri TrV z u))]
def ΓCw (f g z u : Int → Int → Int → Int → Int → Int → Int) : List (FuncId × CSpec) := [(24, .v (sTri TrV f g)), (35, .v (sTri TrV z u))]
end Go.Proofs.YtjdcicjhpegphaaGreat

/- The reduction of a sight: what the functions ask. -/
namespace Go.Proofs.YtjdcicjhpegphaaGreat
open Go Go.Abs Go.RowKit Go.Sine
set_option linter.unusedVariables false
set_option linter.unusedSimpArgs false
theorem vc_cslatitude (a b : Int) (K : Value → Prop) : callsX Tryz.prog (ΓAw) (noAnn) 106 [wid a b] K = (
 True ∧ bcase (decide (ArcV a b)) (bcase (decide (a ≥ -5400000)) (K (Value.bool (decide (b ≤ 5400000)))) (K (Value.bool false))) (K (Value.bool false))) := by kernel_rfl
theorem vc_csvalid (l l' d d' h h' : Int) (K : Value → Prop) : callsX Tryz.prog (ΓCt) (noAnn) 64 [tri6 l l' d d' h h'] K = (
 True ∧ bcase (decide (LatV l l')) (True ∧ bcase (decide (LatV d d')) (True ∧ K (Value.bool (decide (ArcV h h')))) (K (Value.bool false))) (K (Value.bool false))) := by kernel_rfl
theorem vc_csalti (l l' d d' h h' : Int) (sl sh kl kh : Int → Int → Int) (ml mh zl zh : Int → Int → Int → Int → Int) (al ah : Int → Int) (K : Value → Prop) : callsX Tryz.prog (ΓCs sl sh kl kh ml mh zl zh al ah) (noAnn) 65 [tri6 l l' d d' h h'] K = (
 ZA 0 l l' ∧
 ZA 0 l l' ∧
 ZA 0 d d' ∧
 ZA 0 d d' ∧
 ZA 0 h h' ∧
 ZA 0 h h' ∧
 ZO2 0 (sl l l') (sh l l') (sl d d') (sh d d') ∧
 ZO2 0 (kl l l') (kh l l') (kl d d') (kh d d') ∧
 ZO2 0 (ml (kl l l') (kh l l') (kl d d') (kh d d')) (mh (kl l l') (kh l l') (kl d d') (kh d d')) (kl h h') (kh h h') ∧
 ZO2 0 (ml (sl l l') (sh l l') (sl d d') (sh d d')) (mh (sl l l') (sh l l') (sl d d') (sh d d')) (ml (ml (kl l l') (kh l l') (kl d d') (kh d d')) (mh (kl l l') (kh l l') (kl d d') (kh d d')) (kl h h') (kh h h')) (mh (ml (kl l l') (kh l l') (kl d d') (kh d d')) (mh (kl l l') (kh l l') (kl d d') (kh d d')) (kl h h') (kh h h')) ∧
 AsOk (ml (sl l l') (sh l l') (sl d d') (sh d d') + ml (ml (kl l l') (kh l l') (kl d d') (kh d d')) (mh (kl l l') (kh l l') (kl d d') (kh d d')) (kl h h') (kh h h')) (mh (sl l l') (sh l l') (sl d d') (sh d d') + mh (ml (kl l l') (kh l l') (kl d d') (kh d d')) (mh (kl l l') (kh l l') (kl d d') (kh d d')) (kl h h') (kh h h')) ∧
 K
 (Value.tuple
 #[Value.agg #[Value.int IntKind.i64 (al (ml (sl l l') (sh l l') (sl d d') (sh d d') + ml (ml (kl l l') (kh l l') (kl d d') (kh d d')) (mh (kl l l') (kh l l') (kl d d') (kh d d')) (kl h h') (kh h h'))), Value.int IntKind.i64 (ah (mh (sl l l') (sh l l') (sl d d') (sh d d') + mh (ml (kl l l') (kh l l') (kl d d') (kh d d')) (mh (kl l l') (kh l l') (kl d d') (kh d d')) (kl h h') (kh h h')))],
 Value.int IntKind.i64 0])) := by kernel_rfl
theorem vc_csazi (l l' d d' h h' : Int) (sl sh kl kh : Int → Int → Int) (ml mh zl zh : Int → Int → Int → Int → Int) (al ah : Int → Int) (K : Value → Prop) : callsX Tryz.prog (ΓCs sl sh kl kh ml mh zl zh al ah) (noAnn) 70 [tri6 l l' d d' h h'] K = (
 ZA 0 l l' ∧
 ZA 0 l l' ∧
 ZA 0 d d' ∧
 ZA 0 d d' ∧
 ZA 0 h h' ∧
 ZA 0 h h' ∧
 ZO2 0 (kl d d') (kh d d') (sl h h') (sh h h') ∧
 ZV 0 (ml (kl d d') (kh d d') (sl h h') (sh h h')) (mh (kl d d') (kh d d') (sl h h') (sh h h')) ∧
 ZO2 0 (sl d d') (sh d d') (kl l l') (kh l l') ∧
 ZO2 0 (kl d d') (kh d d') (kl h h') (kh h h') ∧
 ZO2 0 (ml (kl d d') (kh d d') (kl h h') (kh h h')) (mh (kl d d') (kh d d') (kl h h') (kh h h')) (sl l l') (sh l l') ∧
 ZO2 0 (ml (sl d d') (sh d d') (kl l l') (kh l l')) (mh (sl d d') (sh d d') (kl l l') (kh l l')) (ml (ml (kl d d') (kh d d') (kl h h') (kh h h')) (mh (kl d d') (kh d d') (kl h h') (kh h h')) (sl l l') (sh l l')) (mh (ml (kl d d') (kh d d') (kl h h') (kh h h')) (mh (kl d d') (kh d d') (kl h h') (kh h h')) (sl l l') (sh l l')) ∧
 BgOk (-mh (kl d d') (kh d d') (sl h h') (sh h h')) (-ml (kl d d') (kh d d') (sl h h') (sh h h')) (ml (sl d d') (sh d d') (kl l l') (kh l l') - mh (ml (kl d d') (kh d d') (kl h h') (kh h h')) (mh (kl d d') (kh d d') (kl h h') (kh h h')) (sl l l') (sh l l'))
 (mh (sl d d') (sh d d') (kl l l') (kh l l') - ml (ml (kl d d') (kh d d') (kl h h') (kh h h')) (mh (kl d d') (kh d d') (kl h h') (kh h h')) (sl l l') (sh l l')) ∧
 K
 (Value.tuple
 #[Value.agg
 #[Value.int IntKind.i64
 (zl (-mh (kl d d') (kh d d') (sl h h') (sh h h')) (-ml (kl d d') (kh d d') (sl h h') (sh h h')) (ml (sl d d') (sh d d') (kl l l') (kh l l') - mh (ml (kl d d') (kh d d') (kl h h') (kh h h')) (mh (kl d d') (kh d d') (kl h h') (kh h h')) (sl l l') (sh l l'))
 (mh (sl d d') (sh d d') (kl l l') (kh l l') - ml (ml (kl d d') (kh d d') (kl h h') (kh h h')) (mh (kl d d') (kh d d') (kl h h') (kh h h')) (sl l l') (sh l l'))),
 Value.int IntKind.i64
 (zh (-mh (kl d d') (kh d d') (sl h h') (sh h h')) (-ml (kl d d') (kh d d') (sl h h') (sh h h')) (ml (sl d d') (sh d d') (kl l l') (kh l l') - mh (ml (kl d d') (kh d d') (kl h h') (kh h h')) (mh (kl d d') (kh d d') (kl h h') (kh h h')) (sl l l') (sh l l'))
 (mh (sl d d') (sh d d') (kl l l') (kh l l') - ml (ml (kl d d') (kh d d') (kl h h') (kh h h')) (mh (kl d d') (kh d d') (kl h h') (kh h h')) (sl l l') (sh l l')))],
 Value.int IntKind.i64 0])) := by kernel_rfl
theorem vc_csaltitude (l l' d d' h h' : Int) (f g z u : Int → Int → Int → Int → Int → Int → Int) (K : Value → Prop) : callsX Tryz.prog (ΓCu f g z u) (noAnn) 24 [tri6 l l' d d' h h'] K = (
 True ∧ bcase (!decide (TrV l l' d d' h h')) (K (Value.tuple #[Value.agg #[Value.int IntKind.i64 0, Value.int IntKind.i64 0], Value.int IntKind.i64 1])) (TrV l l' d d' h h' ∧ K (Value.tuple #[Value.agg #[Value.int IntKind.i64 (f l l' d d' h h'), Value.int IntKind.i64 (g l l' d d' h h')], Value.int IntKind.i64 0]))) := by kernel_rfl
theorem vc_csazimuth (l l' d d' h h' : Int) (f g z u : Int → Int → Int → Int → Int → Int → Int) (K : Value → Prop) : callsX Tryz.prog (ΓCu f g z u) (noAnn) 35 [tri6 l l' d d' h h'] K = (
 True ∧ bcase (!decide (TrV l l' d d' h h')) (K (Value.tuple #[Value.agg #[Value.int IntKind.i64 0, Value.int IntKind.i64 0], Value.int IntKind.i64 1])) (TrV l l' d d' h h' ∧ K (Value.tuple #[Value.agg #[Value.int IntKind.i64 (z l l' d d' h h'), Value.int IntKind.i64 (u l l' d d' h h')], Value.int IntKind.i64 0]))) := by kernel_rfl
theorem vc_cssolve (l l' d d' h h' : Int) (f g z u : Int → Int → Int → Int → Int → Int → Int) (K : Value → Prop) : callsX Tryz.prog (ΓCw f g z u) (noAnn) 9 [tri6 l l' d d' h h'] K = (
 TrV l l' d d' h h' ∧ TrV l l' d d' h h' ∧ K (Value.tuple #[Value.agg #[Value.int IntKind.i64 (f l l' d d' h h'), Value.int IntKind.i64 (g l l' d d' h h'), Value.int IntKind.i64 (z l l' d d' h h'), Value.int IntKind.i64 (u l l' d d' h h')], Value.int IntKind.i64 0])) := by kernel_rfl
end Go.Proofs.YtjdcicjhpegphaaGreat

/- Quotients of intervals, by the reference: what they answer. -/
namespace Go.Proofs.YtjdcicjhpegphaaGreat
open Go Go.Abs Go.RowKit
set_option linter.unusedVariables false
def sR4Floor : FSpec := fun | [.int .i64 a, .int .i64 b] => some (I64 a ∧ 0 < b, num (a / b)) | _ => none
def TQ (x n y : Int) : Prop := Q31 x ∧ Q40 n ∧ 0 < y ∧ y ≤ 2147483648 ∧ -(16777216 * y) ≤ x * (n.tdiv 1048576) ∧ x * (n.tdiv 1048576) ≤ 16777216 * y
def sTimes4 : FSpec := fun | [.int .i64 x, .int .i64 n, .int .i64 y] => some (TQ x n y, num (flQ x n y)) | _ => none
def sLeast4 : FSpec := fun | [.int .i64 a, .int .i64 b] => some (True, num (min a b)) | _ => none
def TQ4 (a b c d n : Int) : Prop := TQ a n c ∧ TQ a n d ∧ TQ b n c ∧ TQ b n d
def sCorners4 : FSpec := fun | [.agg ⟨[.int .i64 a, .int .i64 b]⟩, .agg ⟨[.int .i64 c, .int .i64 d]⟩, .int .i64 n] => some (TQ4 a b c d n, pair (num (qL a b c d n)) (num (qH a b c d n))) | _ => none
def bigB (x n y : Int) : Bool := decide (2 ≤ absI x / y ∧ 4194304 < absI n / 1048576 * (absI x / y))
def sBig4 : FSpec := fun | [.int .i64 x, .int .i64 n, .int .i64 y] => some (Q31 x ∧ Q40 n ∧ 0 < y, .bool (bigB x n y)) | _ => none
def sTurned4 : FSpec := fun | [.agg ⟨[.int .i64 a, .int .i64 b]⟩, .agg ⟨[.int .i64 c, .int .i64 d]⟩] => some (0 < c, pair (wid a b) (wid c d)) | _ => none
def ΓRt : List (FuncId × CSpec) := []
def ΓRc : List (FuncId × CSpec) := []
def ΓRq : List (FuncId × CSpec) := []
end Go.Proofs.YtjdcicjhpegphaaGreat

/- Quotients of intervals, by the reference: what they ask. -/
namespace Go.Proofs.YtjdcicjhpegphaaGreat
open Go Go.Abs Go.RowKit
set_option linter.unusedVariables false
set_option linter.unusedSimpArgs false
end Go.Proofs.YtjdcicjhpegphaaGreat

/- Quotients of intervals, by the reference: contracts. -/
namespace Go.Proofs.YtjdcicjhpegphaaGreat
open Go Go.Abs Go.RowKit
set_option linter.unusedVariables false
set_option linter.unusedSimpArgs false
/-- A quotient that goes to zero, and one that is rounded down. -/
theorem tdiv_floor {a b : Int} (hb : 0 < b) : (a.tmod b < 0 ∧ a.tdiv b - 1 = a / b) ∨ (¬ a.tmod b < 0 ∧ a.tdiv b = a / b) := by
  rcases Int.le_total 0 a with h | h
  · right
    rw [Int.tmod_eq_emod_of_nonneg h, Int.tdiv_eq_ediv_of_nonneg h]
    exact ⟨by have := Int.emod_nonneg a (Int.ne_of_gt hb); omega, rfl⟩
  · have e1 : a.tdiv b = -((-a) / b) := by rw [← Int.tdiv_eq_ediv_of_nonneg (by omega), Int.neg_tdiv, Int.neg_neg]
    have e2 : a.tmod b = -((-a) % b) := by rw [← Int.tmod_eq_emod_of_nonneg (by omega), Int.neg_tmod, Int.neg_neg]
    rw [e1, e2]
    have m0 := Int.emod_nonneg (-a) (Int.ne_of_gt hb)
    have m1 := Int.emod_lt_of_pos (-a) hb
    have d := Int.mul_ediv_add_emod (-a) b
    by_cases z : (-a) % b = 0
    · right
      refine ⟨by omega, ?_⟩
      symm
      have : a = b * (-((-a) / b)) := by rw [Int.mul_neg]; omega
      conv => lhs; rw [this]
      rw [Int.mul_ediv_cancel_left _ (Int.ne_of_gt hb)]
    · left
      refine ⟨by omega, ?_⟩
      symm
      have : a = (b - (-a) % b) + b * (-((-a) / b) - 1) := by rw [Int.mul_sub, Int.mul_neg]; omega
      conv => lhs; rw [this]
      rw [Int.add_mul_ediv_left _ _ (Int.ne_of_gt hb), Int.ediv_eq_zero_of_lt (by omega) (by omega), Int.zero_add]
theorem ediv_i64 {a b : Int} (ha : I64 a) (hb : 0 < b) : I64 (a / b) ∧ (a.tmod b < 0 → -9223372036854775808 ≤ a / b) := by
  unfold I64 at *
  have h1 : a / b ≤ 9223372036854775807 := by
    rcases Int.le_total 0 a with h | h
    · have := Int.ediv_le_self b h; omega
    · have : a / b ≤ 0 := by
        have := Int.ediv_le_ediv hb h
        rw [Int.zero_ediv] at this
        exact this
      omega
  have h2 : -9223372036854775808 ≤ a / b := by
    have : (-9223372036854775808 : Int) * b ≤ a := by
      have : b * 9223372036854775808 ≥ 1 * 9223372036854775808 := Int.mul_le_mul_of_nonneg_right (by omega) (by decide)
      omega
    exact (Int.le_ediv_iff_mul_le hb).mpr this
  exact ⟨⟨h2, h1⟩, fun _ => h2⟩
variable {Φ : World → Prop} (hst : ∀ w w', Φ w → Below w.heap.size w w' → Φ w')
include hst
omit hst in
theorem s_Rt : Sound Tryz.prog Φ ΓRt := Sound.nil
end Go.Proofs.YtjdcicjhpegphaaGreat

/- Quotients of intervals, by the reference: contracts of the whole. -/
namespace Go.Proofs.YtjdcicjhpegphaaGreat
open Go Go.Abs Go.RowKit
set_option linter.unusedVariables false
set_option linter.unusedSimpArgs false
variable {Φ : World → Prop} (hst : ∀ w w', Φ w → Below w.heap.size w w' → Φ w')
include hst
omit hst in
theorem s_Rc : Sound Tryz.prog Φ ΓRc := Sound.nil
omit hst in
theorem tq_neg {x n y : Int} (h : TQ x n y) : TQ x (-n) y := by
  obtain ⟨h1, h2, h3, h4, h5, h6⟩ := h
  unfold TQ
  rw [Int.neg_tdiv, Int.mul_neg]
  exact ⟨h1, ⟨by have := h2.2; omega, by have := h2.1; omega⟩, h3, h4, by omega, by omega⟩
omit hst in
theorem fl_bound {x n y : Int} (h : TQ x n y) : -2269391999729664 ≤ flQ x n y ∧ flQ x n y ≤ 2269391999729664 := by
  obtain ⟨⟨x0, x1⟩, ⟨n0, n1⟩, y0, y1, p0, p1⟩ := h
  have hn : n = 1048576 * n.tdiv 1048576 + n.tmod 1048576 := (Int.mul_tdiv_add_tmod n 1048576).symm
  have hl : -1048576 < n.tmod 1048576 ∧ n.tmod 1048576 < 1048576 := ⟨Int.lt_tmod_of_pos n (by decide), Int.tmod_lt_of_pos n (by decide)⟩
  have full : x * n = x * n.tdiv 1048576 * 1048576 + x * n.tmod 1048576 := by
    conv => lhs; rw [hn]
    rw [Int.mul_add, Int.mul_comm 1048576, Int.mul_assoc]
  have lb : -2251799813685248 ≤ x * n.tmod 1048576 ∧ x * n.tmod 1048576 ≤ 2251799813685248 := by
    have : (x * n.tmod 1048576).natAbs ≤ 2147483648 * 1048576 := by
      rw [Int.natAbs_mul]
      exact Nat.mul_le_mul (by omega) (by omega)
    omega
  unfold flQ
  rw [full]
  generalize x * n.tdiv 1048576 = p at *
  generalize x * n.tmod 1048576 = q at *
  exact ⟨(Int.le_ediv_iff_mul_le y0).mpr (by omega), Int.le_of_lt_add_one (Int.ediv_lt_of_lt_mul y0 (by omega))⟩
omit hst in
theorem big_tail {X N y : Int} {B : Bool} (hX : 0 ≤ X ∧ X ≤ 2147483648) (hN : 0 ≤ N ∧ N ≤ 1099511627776) (hy : 0 < y) (hB : B = decide (2 ≤ X / y ∧ 4194304 < N / 1048576 * (X / y))) :
    bcase (y == 0) False (bcase (decide (IntKind.i64.wrap (X.tdiv y) ≥ 2)) (bcase (y == 0) False (Value.bool (decide (IntKind.i64.wrap (IntKind.i64.wrap (N.tdiv 1048576) * IntKind.i64.wrap (X.tdiv y)) > 4194304)) = Value.bool B)) (Value.bool false = Value.bool B)) := by
  have nz : (y == 0) = false := beq_eq_false_iff_ne.mpr (by omega)
  have q0 : 0 ≤ X / y := Int.ediv_nonneg hX.1 (by omega)
  have q1 : X / y ≤ 2147483648 := Int.le_trans (Int.ediv_le_self y hX.1) hX.2
  have m0 : 0 ≤ N / 1048576 ∧ N / 1048576 ≤ 1048576 := by omega
  rw [Int.tdiv_eq_ediv_of_nonneg hX.1, Int.tdiv_eq_ediv_of_nonneg hN.1, wrap_in (n := X / y) (by omega), wrap_in (n := N / 1048576) (by omega), nz, bcase_false, bcase_false]
  have p0 := Int.mul_nonneg m0.1 q0
  have p1 : N / 1048576 * (X / y) ≤ 1048576 * 2147483648 := Int.mul_le_mul m0.2 q1 q0 (by decide)
  rw [wrap_in (n := N / 1048576 * (X / y)) (by omega)]
  subst hB
  refine bcase_iff.mpr ⟨fun q => ?_, fun q => ?_⟩
  · have q := of_decide_eq_true q
    exact congrArg Value.bool (decide_eq_decide.mpr ⟨fun h => ⟨q, h⟩, fun h => h.2⟩)
  · have q := of_decide_eq_false q
    exact congrArg Value.bool (decide_eq_false (fun h => q h.1)).symm
end Go.Proofs.YtjdcicjhpegphaaGreat

/- Quotients of intervals: the reference answers as the program does. -/
namespace Go.Proofs.YtjdcicjhpegphaaGreat
open Go Go.Abs Go.RowKit
set_option linter.unusedVariables false
set_option linter.unusedSimpArgs false
theorem abs_cases (x : Int) : 0 ≤ absI x ∧ (x = absI x ∨ x = -absI x) := by unfold absI; split <;> omega
theorem big_out {x n y : Int} (hy : 0 < y) (h : bigB x n y = true) : flQ x n y < -1099511627776 ∨ 1099511627776 < flQ x n y := by
  unfold bigB at h
  obtain ⟨h1, h2⟩ := of_decide_eq_true h
  obtain ⟨X0, hX⟩ := abs_cases x
  obtain ⟨N0, hN⟩ := abs_cases n
  generalize absI x = X at *
  generalize absI n = N at *
  have a1 : y * (X / y) ≤ X := Int.mul_ediv_self_le (Int.ne_of_gt hy)
  have a2 : N / 1048576 * 1048576 ≤ N := by omega
  have q0 : 0 ≤ X / y := by omega
  have m0 : 0 ≤ N / 1048576 := by omega
  have yq : 0 ≤ y * (X / y) := Int.mul_nonneg (by omega) q0
  have P : (y * (X / y)) * (N / 1048576 * 1048576) ≤ X * N := Int.mul_le_mul a1 a2 (by omega) X0
  have e : (y * (X / y)) * (N / 1048576 * 1048576) = y * (N / 1048576 * (X / y)) * 1048576 := by
    generalize X / y = q
    generalize N / 1048576 = m
    grind
  have k : y * 4194305 ≤ y * (N / 1048576 * (X / y)) := Int.mul_le_mul_of_nonneg_left (by omega) (by omega)
  rw [e] at P
  have low : y * 4194305 * 1048576 ≤ X * N := by omega
  unfold flQ
  have hp : x * n = X * N ∨ x * n = -(X * N) := by
    rcases hX with e1 | e1 <;> rcases hN with e2 | e2 <;> rw [e1, e2]
    · left; rfl
    · right; rw [Int.mul_neg]
    · right; rw [Int.neg_mul]
    · left; rw [Int.neg_mul_neg]
  clear P e k a1 a2 yq hX hN h1 h2 h
  generalize X * N = p at *
  rcases hp with e | e
  · right
    rw [e]
    have : 1099511627777 ≤ p / y := (Int.le_ediv_iff_mul_le hy).mpr (by omega)
    omega
  · left
    rw [e]
    exact Int.ediv_lt_of_lt_mul hy (by omega)
theorem not_big {x n y z : Int} (hx : Q31 x) (hn : Q40 n) (hy : 0 < y) (hz : y ≤ z) (hz1 : z ≤ 2147483648) (h : bigB x n y = false) : TQ x n z := by
  have h' := of_decide_eq_false h
  refine ⟨hx, hn, by omega, hz1, ?_⟩
  obtain ⟨X0, hX⟩ := abs_cases x
  obtain ⟨N0, hN⟩ := abs_cases n
  have hXb : absI x ≤ 2147483648 := by unfold Q31 at hx; unfold absI; split <;> omega
  have hNb : absI n ≤ 1099511627776 := by unfold Q40 at hn; unfold absI; split <;> omega
  generalize absI x = X at *
  generalize absI n = N at *
  have m0 : 0 ≤ N / 1048576 ∧ N / 1048576 ≤ 1048576 := by omega
  have q0 : 0 ≤ X / y := Int.ediv_nonneg X0 (by omega)
  have a1 : X < y * (X / y) + y := Int.lt_mul_ediv_self_add hy
  have ht : n.tdiv 1048576 = N / 1048576 ∨ n.tdiv 1048576 = -(N / 1048576) := by
    rcases hN with e | e
    · left; rw [e, Int.tdiv_eq_ediv_of_nonneg N0]
    · right; rw [e, Int.neg_tdiv, Int.tdiv_eq_ediv_of_nonneg N0]
  have lim : X * (N / 1048576) ≤ 8388608 * y := by
    generalize N / 1048576 = m at *
    by_cases c : 2 ≤ X / y
    · have c2 : m * (X / y) ≤ 4194304 := by
        rcases Int.lt_or_le 4194304 (m * (X / y)) with q | q
        · exact absurd ⟨c, q⟩ h'
        · exact q
      have k1 : X * m ≤ (y * (X / y) + y) * m := Int.mul_le_mul_of_nonneg_right (by omega) m0.1
      have e : (y * (X / y) + y) * m = y * (m * (X / y) + m) := by generalize X / y = q; grind
      have k2 : y * (m * (X / y) + m) ≤ y * 5242880 := Int.mul_le_mul_of_nonneg_left (by omega) (by omega)
      rw [e] at k1
      omega
    · have q1 : X / y ≤ 1 := by omega
      have : y * (X / y) ≤ y * 1 := Int.mul_le_mul_of_nonneg_left q1 (by omega)
      have k1 : X * m ≤ (2 * y) * 1048576 := Int.mul_le_mul (by omega) m0.2 m0.1 (by omega)
      omega
  have nn : 0 ≤ X * (N / 1048576) := Int.mul_nonneg X0 m0.1
  have hp : x * n.tdiv 1048576 = X * (N / 1048576) ∨ x * n.tdiv 1048576 = -(X * (N / 1048576)) := by
    rcases hX with e1 | e1 <;> rcases ht with e2 | e2 <;> rw [e1, e2]
    · left; rfl
    · right; rw [Int.mul_neg]
    · right; rw [Int.neg_mul]
    · left; rw [Int.neg_mul_neg]
  clear hX hN ht h' h a1
  generalize X * (N / 1048576) = p at *
  generalize x * n.tdiv 1048576 = r at *
  omega
variable {Φ : World → Prop} (hst : ∀ w w', Φ w → Below w.heap.size w w' → Φ w')
include hst
omit hst in
theorem s_Rq : Sound Tryz.prog Φ ΓRq := Sound.nil
end Go.Proofs.YtjdcicjhpegphaaGreat

/- Quotients of intervals of one sign. -/
namespace Go.Proofs.YtjdcicjhpegphaaGreat
open Go Go.Abs Go.RowKit
set_option linter.unusedVariables false
set_option linter.unusedSimpArgs false
theorem fl_iff {A m x : Int} (hm : 0 < m) : x ≤ A / m ↔ x * m ≤ A := Int.le_ediv_iff_mul_le hm
theorem ce_iff {A m z : Int} (hm : 0 < m) : -(-A / m) ≤ z ↔ A ≤ z * m := by
  have h := fl_iff (A := -A) (x := -z) hm
  rw [Int.neg_mul] at h
  omega
/-! Quotients of an interval of one sign. -/
theorem ediv_den {x c d : Int} (hx : 0 ≤ x) (hc : 0 < c) (hcd : c ≤ d) : x / d ≤ x / c := by
  apply (fl_iff hc).mpr
  have a := (fl_iff (A := x) (show 0 < d by omega)).mp (Int.le_refl _)
  have n := Int.ediv_nonneg hx (show 0 ≤ d by omega)
  have := Int.mul_le_mul_of_nonneg_left hcd n
  omega
theorem ediv_den' {x c d : Int} (hx : x ≤ 0) (hc : 0 < c) (hcd : c ≤ d) : x / c ≤ x / d := by
  apply (fl_iff (show 0 < d by omega)).mpr
  have a := (fl_iff (A := x) hc).mp (Int.le_refl _)
  have n : x / c ≤ 0 := by
    have := Int.ediv_le_ediv hc hx
    rw [Int.zero_ediv] at this
    exact this
  have := Int.mul_le_mul_of_nonpos_left n hcd
  omega
theorem q_pos {a b c d n : Int} (ha : 0 ≤ a) (hab : a ≤ b) (hc : 0 < c) (hcd : c ≤ d) (hn : 0 ≤ n) : qL a b c d n = a * n / d ∧ qH a b c d n = -(-(b * n) / c) := by
  have m := Int.mul_le_mul_of_nonneg_right hab hn
  have a0 := Int.mul_nonneg ha hn
  have hd : 0 < d := by omega
  have i1 := ediv_den a0 hc hcd
  have i2 := ediv_den (x := b * n) (by omega) hc hcd
  have i3 := Int.ediv_le_ediv hd m
  have j1 := ediv_den' (x := -(a * n)) (by omega) hc hcd
  have j2 := ediv_den' (x := -(b * n)) (by omega) hc hcd
  have j3 := Int.ediv_le_ediv hc (show -(b * n) ≤ -(a * n) by omega)
  unfold qL qH flQ ceQ
  omega
theorem q_neg {a b c d n : Int} (hb : b ≤ 0) (hab : a ≤ b) (hc : 0 < c) (hcd : c ≤ d) (hn : 0 ≤ n) : qL a b c d n = a * n / c ∧ qH a b c d n = -(-(b * n) / d) := by
  have m := Int.mul_le_mul_of_nonneg_right hab hn
  have b0 := Int.mul_nonneg (show 0 ≤ -b by omega) hn
  rw [Int.neg_mul] at b0
  have hd : 0 < d := by omega
  have i1 := ediv_den' (x := a * n) (by omega) hc hcd
  have i2 := ediv_den' (x := b * n) (by omega) hc hcd
  have i3 := Int.ediv_le_ediv hc m
  have j1 := ediv_den (x := -(a * n)) (by omega) hc hcd
  have j2 := ediv_den (x := -(b * n)) (by omega) hc hcd
  have j3 := Int.ediv_le_ediv hd (show -(b * n) ≤ -(a * n) by omega)
  unfold qL qH flQ ceQ
  omega
theorem up_ge (p : Int) : sinP p ≤ upI p ∧ upI p ≤ sinP p + 1 := by unfold upI; split <;> omega
/-- A lesser quotient. -/
theorem ediv_less {x y c d : Int} (hxy : x ≤ y) (hy : 0 ≤ y) (hc : 0 < c) (hcd : c ≤ d) : x / d ≤ y / c :=
  Int.le_trans (Int.ediv_le_ediv (by omega) hxy) (ediv_den hy hc hcd)
theorem ediv_less' {x y c d : Int} (hxy : x ≤ y) (hx : x ≤ 0) (hc : 0 < c) (hcd : c ≤ d) : x / c ≤ y / d :=
  Int.le_trans (ediv_den' hx hc hcd) (Int.ediv_le_ediv (by omega) hxy)
theorem ediv_np {x c : Int} (hx : x ≤ 0) (hc : 0 < c) : x / c ≤ 0 := by
  have := Int.ediv_le_ediv hc hx
  rw [Int.zero_ediv] at this
  exact this
theorem enc_fix {a b : Int} (h : a ≤ b) : FixV (encL a b) (encH a b) := by
  have r1 := ends_range a
  have r2 := ends_range b
  have e1 := ends_eq a
  have l1 : loI a ≤ hiE a := by rw [e1]; split <;> omega
  unfold FixV encL encH
  split <;> split <;> omega
end Go.Proofs.YtjdcicjhpegphaaGreat

/- The reduction of a sight: contracts. -/
namespace Go.Proofs.YtjdcicjhpegphaaGreat
open Go Go.Abs Go.RowKit Go.Sine
set_option linter.unusedVariables false
set_option linter.unusedSimpArgs false
def OkP (p : Int × Int) : Prop := FixO p.1 p.2
theorem sin_ok {a b : Int} (h : a ≤ b) : OkP (sinT a b) := by
  have r1 := ends_range a
  have r2 := ends_range b
  have v := enc_fix h
  unfold OkP sinT FixO
  unfold FixV at v
  unfold encL encH at *
  dsimp only
  refine ⟨?_, v.2.1, ?_⟩ <;> split <;> omega
theorem cos_ok {a b : Int} (h : a ≤ b) : OkP (cosT a b) := sin_ok (a := a + 5400000) (b := b + 5400000) (by omega)
theorem mul_ok {p q : Int × Int} (h : OkP p) (k : OkP q) : OkP (mulP p q) := mu_ok h k
theorem TrV.oks {l l' d d' h h' : Int} (v : TrV l l' d d' h h') : OkP (sinT l l') ∧ OkP (cosT l l') ∧ OkP (sinT d d') ∧ OkP (cosT d d') ∧ OkP (sinT h h') ∧ OkP (cosT h h') := by
  obtain ⟨⟨a, _⟩, ⟨b, _⟩, ⟨_, c, _⟩⟩ := v
  exact ⟨sin_ok a, cos_ok a, sin_ok b, cos_ok b, sin_ok c, cos_ok c⟩
theorem LatV.arc {a b : Int} (h : LatV a b) : ArcV a b := by unfold LatV at h; unfold ArcV; omega
theorem add_v {p q : Int × Int} (h : OkP p) (k : OkP q) : FixV (addP p q).1 (addP p q).2 := by
  unfold OkP FixO at h k; unfold addP FixV; dsimp only; omega
theorem sub_v {p q : Int × Int} (h : OkP p) (k : OkP q) : FixV (subP p q).1 (subP p q).2 := by
  unfold OkP FixO at h k; unfold subP FixV; dsimp only; omega
theorem neg_v {p : Int × Int} (h : OkP p) : FixV (negP p).1 (negP p).2 := by
  unfold OkP FixO at h; unfold negP FixV; dsimp only; omega
variable {Φ : World → Prop} (hst : ∀ w w', Φ w → Below w.heap.size w w' → Φ w')
include hst
theorem c_cslatitude (a b : Int) : Ans Tryz.prog Φ 106 [wid a b] (.bool (decide (LatV a b))) := by
  refine fn_by hst (s_Aw hst) (vc_cslatitude a b _) ?_
  refine ⟨trivial, bcase_iff.mpr ⟨fun p => bcase_iff.mpr ⟨fun q => ?_, fun q => ?_⟩, fun p => ?_⟩⟩
  all_goals simp only [decide_eq_true_eq, decide_eq_false_iff_not] at *
  · exact bo_iff (by unfold ArcV at *; unfold LatV; omega)
  · exact bo_no (by unfold ArcV at *; unfold LatV; omega)
  · exact bo_no (by unfold ArcV at *; unfold LatV; omega)
theorem s_Ct : Sound Tryz.prog Φ ΓCt :=
  Sound.cons (by kernel_rfl) (fun args p v h hp => by unfold sLatV at h; split at h <;> cases h; exact c_cslatitude hst _ _)
  (Sound.cons (by kernel_rfl) (fun args p v h hp => by unfold sAnValid at h; split at h <;> cases h; exact c_anvalid hst _ _) Sound.nil)
theorem c_csvalid (l l' d d' h h' : Int) : Ans Tryz.prog Φ 64 [tri6 l l' d d' h h'] (.bool (decide (TrV l l' d d' h h'))) := by
  refine fn_by hst (s_Ct hst) (vc_csvalid l l' d d' h h' _) ?_
  refine ⟨trivial, bcase_iff.mpr ⟨fun p => ⟨trivial, bcase_iff.mpr ⟨fun q => ⟨trivial, ?_⟩, fun q => ?_⟩⟩, fun p => ?_⟩⟩
  · exact bo_iff ⟨fun r => ⟨of_decide_eq_true p, of_decide_eq_true q, r⟩, fun r => r.2.2⟩
  · exact bo_no (fun r => of_decide_eq_false q r.2.1)
  · exact bo_no (fun r => of_decide_eq_false p r.1)
theorem s_Cs : Sound Tryz.prog Φ (ΓCs encL encH cL cH muL muH bL bH asL asH) :=
  Sound.pcons (by kernel_rfl) (fun args cell p v h hp => by unfold pSn at h; split at h <;> cases h; obtain ⟨h1, h2⟩ := hp; subst h1; exact zc_pans fun b T => m_cssin hst h2)
  (Sound.pcons (by kernel_rfl) (fun args cell p v h hp => by unfold pSn at h; split at h <;> cases h; obtain ⟨h1, h2⟩ := hp; subst h1; exact zc_pans fun b T => m_cscos hst h2)
  (Sound.pcons (by kernel_rfl) (fun args cell p v h hp => by unfold pMu at h; split at h <;> cases h; obtain ⟨h1, h2⟩ := hp; subst h1; exact zc_pans fun b T => m_csmul hst h2)
  (Sound.pcons (by kernel_rfl) (fun args cell p v h hp => by unfold pAd at h; split at h <;> cases h; obtain ⟨h1, h2⟩ := hp; subst h1; exact zc_pans fun b T => m_csadd hst h2)
  (Sound.pcons (by kernel_rfl) (fun args cell p v h hp => by unfold pSb at h; split at h <;> cases h; obtain ⟨h1, h2⟩ := hp; subst h1; exact zc_pans fun b T => m_cssub hst h2)
  (Sound.pcons (by kernel_rfl) (fun args cell p v h hp => by unfold pNg at h; split at h <;> cases h; obtain ⟨h1, h2⟩ := hp; subst h1; exact zc_pans fun b T => m_csneg hst h2)
  (Sound.cons (by kernel_rfl) (fun args p v h hp => by unfold sAsn at h; split at h <;> cases h; exact c_atasin hst hp.1 hp.2.1 hp.2.2)
  (Sound.cons (by kernel_rfl) (fun args p v h hp => by unfold sBrg at h; split at h <;> cases h; exact c_atbearing hst hp.1 hp.2) Sound.nil)))))))
omit hst in
theorem sAl_v {l l' d d' h h' : Int} (v : TrV l l' d d' h h') : FixV (sAl l l' d d' h h').1 (sAl l l' d d' h h').2 := by
  obtain ⟨o1, o2, o3, o4, o5, o6⟩ := v.oks
  exact add_v (mul_ok o1 o3) (mul_ok (mul_ok o2 o4) o6)
omit hst in
theorem yAz_v {l l' d d' h h' : Int} (v : TrV l l' d d' h h') : FixV (yAz l l' d d' h h').1 (yAz l l' d d' h h').2 := by
  obtain ⟨o1, o2, o3, o4, o5, o6⟩ := v.oks
  exact neg_v (mul_ok o4 o5)
omit hst in
theorem xAz_v {l l' d d' h h' : Int} (v : TrV l l' d d' h h') : FixV (xAz l l' d d' h h').1 (xAz l l' d d' h h').2 := by
  obtain ⟨o1, o2, o3, o4, o5, o6⟩ := v.oks
  exact sub_v (mul_ok o3 o2) (mul_ok (mul_ok o4 o6) o1)
/-- The sine of an altitude: its enclosure meets those of sines. -/
def MeT (l l' d d' h h' : Int) : Prop := (sAl l l' d d' h h').1 ≤ 1073741824 ∧ -1073741824 ≤ (sAl l l' d d' h h').2
def MeetsAll : Prop := ∀ l l' d d' h h', TrV l l' d d' h h' → MeT l l' d d' h h'
omit hst in
theorem fx_add {a b c d : Int} (h : FixO a b) (k : FixO c d) : FixV (a + c) (b + d) := by unfold FixO at h k; unfold FixV; omega
omit hst in
theorem fx_sub {a b c d : Int} (h : FixO a b) (k : FixO c d) : FixV (a - d) (b - c) := by unfold FixO at h k; unfold FixV; omega
omit hst in
theorem fx_neg {a b : Int} (h : FixO a b) : FixV (-b) (-a) := by unfold FixO at h; unfold FixV; omega
theorem c_csalti (hm : MeetsAll) {l l' d d' h h' : Int} (v : TrV l l' d d' h h') : Ans Tryz.prog Φ 65 [tri6 l l' d d' h h'] (fxOk (hL l l' d d' h h') (hH l l' d d' h h')) := by
  have m := hm _ _ _ _ _ _ v
  unfold MeT sAl addP mulP sinT cosT at m
  dsimp only at m
  unfold hL hH sAl addP mulP sinT cosT
  dsimp only
  refine fn_by hst (s_Cs hst) (vc_csalti l l' d d' h h' encL encH cL cH muL muH bL bH asL asH _) ?_
  obtain ⟨o1, o2, o3, o4, o5, o6⟩ := v.oks
  have o1 : FixO (encL l l') (encH l l') := o1
  have o2 : FixO (cL l l') (cH l l') := o2
  have o3 : FixO (encL d d') (encH d d') := o3
  have o4 : FixO (cL d d') (cH d d') := o4
  have o6 : FixO (cL h h') (cH h h') := o6
  have a1 := v.1.arc
  have a2 := v.2.1.arc
  have a3 := v.2.2
  exact ⟨⟨rfl, a1⟩, ⟨rfl, a1⟩, ⟨rfl, a2⟩, ⟨rfl, a2⟩, ⟨rfl, a3⟩, ⟨rfl, a3⟩, ⟨rfl, o1, o3⟩, ⟨rfl, o2, o4⟩, ⟨rfl, mu_ok o2 o4, o6⟩, ⟨rfl, mu_ok o1 o3, mu_ok (mu_ok o2 o4) o6⟩, ⟨fx_add (mu_ok o1 o3) (mu_ok (mu_ok o2 o4) o6), m.1, m.2⟩, rfl⟩
theorem c_csazi {l l' d d' h h' : Int} (v : TrV l l' d d' h h') : Ans Tryz.prog Φ 70 [tri6 l l' d d' h h'] (fxOk (zL l l' d d' h h') (zH l l' d d' h h')) := by
  unfold zL zH yAz xAz subP negP mulP sinT cosT
  dsimp only
  refine fn_by hst (s_Cs hst) (vc_csazi l l' d d' h h' encL encH cL cH muL muH bL bH asL asH _) ?_
  obtain ⟨o1, o2, o3, o4, o5, o6⟩ := v.oks
  have o1 : FixO (encL l l') (encH l l') := o1
  have o2 : FixO (cL l l') (cH l l') := o2
  have o3 : FixO (encL d d') (encH d d') := o3
  have o4 : FixO (cL d d') (cH d d') := o4
  have o5 : FixO (encL h h') (encH h h') := o5
  have o6 : FixO (cL h h') (cH h h') := o6
  have a1 := v.1.arc
  have a2 := v.2.1.arc
  have a3 := v.2.2
  exact ⟨⟨rfl, a1⟩, ⟨rfl, a1⟩, ⟨rfl, a2⟩, ⟨rfl, a2⟩, ⟨rfl, a3⟩, ⟨rfl, a3⟩, ⟨rfl, o4, o5⟩, ⟨rfl, FixO.v (mu_ok o4 o5)⟩, ⟨rfl, o3, o2⟩, ⟨rfl, o4, o6⟩, ⟨rfl, mu_ok o4 o6, o1⟩, ⟨rfl, mu_ok o3 o2, mu_ok (mu_ok o4 o6) o1⟩, ⟨fx_neg (mu_ok o4 o5), fx_sub (mu_ok o3 o2) (mu_ok (mu_ok o4 o6) o1)⟩, rfl⟩
theorem s_Cu (hm : MeetsAll) : Sound Tryz.prog Φ (ΓCu hL hH zL zH) :=
  Sound.cons (by kernel_rfl) (fun args p v h hp => by unfold sTrV at h; split at h <;> cases h; exact c_csvalid hst _ _ _ _ _ _)
  (Sound.cons (by kernel_rfl) (fun args p v h hp => by unfold sTri at h; split at h <;> cases h; exact c_csalti hst hm hp)
  (Sound.cons (by kernel_rfl) (fun args p v h hp => by unfold sTri at h; split at h <;> cases h; exact c_csazi hst hp) Sound.nil))
theorem c_csaltitude (hm : MeetsAll) {l l' d d' h h' : Int} (v : TrV l l' d d' h h') : Ans Tryz.prog Φ 24 [tri6 l l' d d' h h'] (fxOk (hL l l' d d' h h') (hH l l' d d' h h')) := by
  refine fn_by hst (s_Cu hst hm) (vc_csaltitude l l' d d' h h' _ _ _ _ _) ?_
  rw [decide_eq_true v]
  exact ⟨trivial, v, rfl⟩
theorem c_csazimuth (hm : MeetsAll) {l l' d d' h h' : Int} (v : TrV l l' d d' h h') : Ans Tryz.prog Φ 35 [tri6 l l' d d' h h'] (fxOk (zL l l' d d' h h') (zH l l' d d' h h')) := by
  refine fn_by hst (s_Cu hst hm) (vc_csazimuth l l' d d' h h' _ _ _ _ _) ?_
  rw [decide_eq_true v]
  exact ⟨trivial, v, rfl⟩
theorem s_Cw (hm : MeetsAll) : Sound Tryz.prog Φ (ΓCw hL hH zL zH) :=
  Sound.cons (by kernel_rfl) (fun args p v h hp => by unfold sTri at h; split at h <;> cases h; exact c_csaltitude hst hm hp)
  (Sound.cons (by kernel_rfl) (fun args p v h hp => by unfold sTri at h; split at h <;> cases h; exact c_csazimuth hst hm hp) Sound.nil)
theorem c_cssolve (hm : MeetsAll) {l l' d d' h h' : Int} (v : TrV l l' d d' h h') : Ans Tryz.prog Φ 9 [tri6 l l' d d' h h'] (pair (arc4 (hL l l' d d' h h') (hH l l' d d' h h') (zL l l' d d' h h') (zH l l' d d' h h')) (num 0)) :=
  fn_by hst (s_Cw hst hm) (vc_cssolve l l' d d' h h' _ _ _ _ _) ⟨v, v, rfl⟩
end Go.Proofs.YtjdcicjhpegphaaGreat
