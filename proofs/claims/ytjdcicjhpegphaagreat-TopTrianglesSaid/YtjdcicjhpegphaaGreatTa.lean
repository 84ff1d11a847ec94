/- TopTriangles: distances and courses: what the functions answer. TopTriangles: distances and courses: what they ask. TopTriangles: distances and courses: contracts. The functions of half-angles that keep the first error, where there is none. -/
import Derived.Test.YtjdcicjhpegphaaGreatWb2
import Derived.Test.YtjdcicjhpegphaaGreatPa
import Derived.Below
import Derived.WalkKit
import Derived.WalkLawsBesides
import Derived.WalkSpells
import Derived.BigQuiet
import Derived.Deep.QuietTactic
import Derived.Outline
import Derived.Handy
import Derived.WalkSmall
import Derived.Laws.Rows
import Derived.KernelRfl
set_option linter.unusedSimpArgs false
set_option linter.unusedVariables false
namespace Go.Proofs.YtjdcicjhpegphaaGreat
open Go Go.Abs Go.RowKit Go.Sine
def sHavG (hl hh : Int → Int → Int) : FSpec := fun | [.agg ⟨[.int .i64 a, .int .i64 b]⟩] => some (ArcV a b, fxOk (hl a b) (hh a b)) | _ => none
def AhG (a b : Int) : Prop := FixV a b ∧ a ≤ 1073741824 ∧ 0 ≤ b
def sAhvG (al ah : Int → Int) : FSpec := fun | [.agg ⟨[.int .i64 a, .int .i64 b]⟩] => some (AhG a b, fxOk (al a) (ah b)) | _ => none
def ΓGd (k : Nat) (sl sh kl kh hl hh : Int → Int → Int) (ml mh zl zh : Int → Int → Int → Int → Int) (al ah sg : Int → Int) : List (FuncId × CSpec) := [(73, .v (vSn k sl sh)), (74, .v (vSn k kl kh)), (72, .v (vMu k ml mh)), (80, .v (vAd k)), (75, .v (vSb k)), (78, .v (sKeep k)), (76, .v (sKeep k)), (71, .v sOne1), (63, .v (fun | [.int .i64 n] => some (True, num (sg n)) | _ => none)), (77, .v (sBrg zl zh)), (79, .v (sHavG hl hh)), (51, .v (sAhvG al ah))]
def PtZ (a b c d z : Int) : Prop := PtV a b ∧ PtV c d ∧ z = 0
def pLegG (f g : Int → Int → Int → Int → Int) : PSpec := fun | [.agg ⟨[.int .i64 a, .int .i64 b]⟩, .agg ⟨[.int .i64 c, .int .i64 d]⟩], [.int .i64 z] => some (PtZ a b c d z, wid (f a b c d) (g a b c d)) | _, _ => none
def ΓInG (f g h i : Int → Int → Int → Int → Int) : List (FuncId × CSpec) := [(41, .v sPtV), (42, .p (pLegG f g)), (43, .p (pLegG h i))]
end Go.Proofs.YtjdcicjhpegphaaGreat
namespace Go.Proofs.YtjdcicjhpegphaaGreat
open Go Go.Abs Go.RowKit Go.Sine
theorem vc_gccourseG (k : Nat) (p l q m : Int) (sl sh kl kh hl hh : Int → Int → Int) (ml mh zl zh : Int → Int → Int → Int → Int) (al ah sg : Int → Int) (K : Value → Prop) : callsX Tryz.prog (ΓGd k sl sh kl kh hl hh ml mh zl zh al ah sg) (noAnn) 42 [ptr k, wid p l, wid q m] K = (
 True ∧
 True ∧
 PbA k k (sg (IntKind.i64.wrap (m - l))) (sg (IntKind.i64.wrap (m - l))) ∧
 True ∧
 PbA k k q q ∧
 PbO k k (sl (sg (IntKind.i64.wrap (m - l))) (sg (IntKind.i64.wrap (m - l)))) (sh (sg (IntKind.i64.wrap (m - l))) (sg (IntKind.i64.wrap (m - l)))) (kl q q) (kh q q) ∧
 True ∧
 PbA k k p p ∧
 True ∧
 PbA k k q q ∧
 PbO k k (kl p p) (kh p p) (sl q q) (sh q q) ∧
 True ∧
 PbA k k p p ∧
 True ∧
 PbA k k q q ∧
 PbO k k (sl p p) (sh p p) (kl q q) (kh q q) ∧
 PbA k k (sg (IntKind.i64.wrap (m - l))) (sg (IntKind.i64.wrap (m - l))) ∧
 PbO k k (ml (sl p p) (sh p p) (kl q q) (kh q q)) (mh (sl p p) (sh p p) (kl q q) (kh q q)) (kl (sg (IntKind.i64.wrap (m - l))) (sg (IntKind.i64.wrap (m - l)))) (kh (sg (IntKind.i64.wrap (m - l))) (sg (IntKind.i64.wrap (m - l)))) ∧
 PbO k k (ml (kl p p) (kh p p) (sl q q) (sh q q)) (mh (kl p p) (kh p p) (sl q q) (sh q q)) (ml (ml (sl p p) (sh p p) (kl q q) (kh q q)) (mh (sl p p) (sh p p) (kl q q) (kh q q)) (kl (sg (IntKind.i64.wrap (m - l))) (sg (IntKind.i64.wrap (m - l)))) (kh (sg (IntKind.i64.wrap (m - l))) (sg (IntKind.i64.wrap (m - l)))))
 (mh (ml (sl p p) (sh p p) (kl q q) (kh q q)) (mh (sl p p) (sh p p) (kl q q) (kh q q)) (kl (sg (IntKind.i64.wrap (m - l))) (sg (IntKind.i64.wrap (m - l)))) (kh (sg (IntKind.i64.wrap (m - l))) (sg (IntKind.i64.wrap (m - l))))) ∧
 BgOk (ml (sl (sg (IntKind.i64.wrap (m - l))) (sg (IntKind.i64.wrap (m - l)))) (sh (sg (IntKind.i64.wrap (m - l))) (sg (IntKind.i64.wrap (m - l)))) (kl q q) (kh q q)) (mh (sl (sg (IntKind.i64.wrap (m - l))) (sg (IntKind.i64.wrap (m - l)))) (sh (sg (IntKind.i64.wrap (m - l))) (sg (IntKind.i64.wrap (m - l)))) (kl q q) (kh q q))
 (ml (kl p p) (kh p p) (sl q q) (sh q q) - mh (ml (sl p p) (sh p p) (kl q q) (kh q q)) (mh (sl p p) (sh p p) (kl q q) (kh q q)) (kl (sg (IntKind.i64.wrap (m - l))) (sg (IntKind.i64.wrap (m - l)))) (kh (sg (IntKind.i64.wrap (m - l))) (sg (IntKind.i64.wrap (m - l)))))
 (mh (kl p p) (kh p p) (sl q q) (sh q q) - ml (ml (sl p p) (sh p p) (kl q q) (kh q q)) (mh (sl p p) (sh p p) (kl q q) (kh q q)) (kl (sg (IntKind.i64.wrap (m - l))) (sg (IntKind.i64.wrap (m - l)))) (kh (sg (IntKind.i64.wrap (m - l))) (sg (IntKind.i64.wrap (m - l))))) ∧
 KpOk k k 0 ∧
 K
 (Value.agg
 #[Value.int IntKind.i64
 (zl (ml (sl (sg (IntKind.i64.wrap (m - l))) (sg (IntKind.i64.wrap (m - l)))) (sh (sg (IntKind.i64.wrap (m - l))) (sg (IntKind.i64.wrap (m - l)))) (kl q q) (kh q q)) (mh (sl (sg (IntKind.i64.wrap (m - l))) (sg (IntKind.i64.wrap (m - l)))) (sh (sg (IntKind.i64.wrap (m - l))) (sg (IntKind.i64.wrap (m - l)))) (kl q q) (kh q q))
 (ml (kl p p) (kh p p) (sl q q) (sh q q) - mh (ml (sl p p) (sh p p) (kl q q) (kh q q)) (mh (sl p p) (sh p p) (kl q q) (kh q q)) (kl (sg (IntKind.i64.wrap (m - l))) (sg (IntKind.i64.wrap (m - l)))) (kh (sg (IntKind.i64.wrap (m - l))) (sg (IntKind.i64.wrap (m - l)))))
 (mh (kl p p) (kh p p) (sl q q) (sh q q) - ml (ml (sl p p) (sh p p) (kl q q) (kh q q)) (mh (sl p p) (sh p p) (kl q q) (kh q q)) (kl (sg (IntKind.i64.wrap (m - l))) (sg (IntKind.i64.wrap (m - l)))) (kh (sg (IntKind.i64.wrap (m - l))) (sg (IntKind.i64.wrap (m - l)))))),
 Value.int IntKind.i64
 (zh (ml (sl (sg (IntKind.i64.wrap (m - l))) (sg (IntKind.i64.wrap (m - l)))) (sh (sg (IntKind.i64.wrap (m - l))) (sg (IntKind.i64.wrap (m - l)))) (kl q q) (kh q q)) (mh (sl (sg (IntKind.i64.wrap (m - l))) (sg (IntKind.i64.wrap (m - l)))) (sh (sg (IntKind.i64.wrap (m - l))) (sg (IntKind.i64.wrap (m - l)))) (kl q q) (kh q q))
 (ml (kl p p) (kh p p) (sl q q) (sh q q) - mh (ml (sl p p) (sh p p) (kl q q) (kh q q)) (mh (sl p p) (sh p p) (kl q q) (kh q q)) (kl (sg (IntKind.i64.wrap (m - l))) (sg (IntKind.i64.wrap (m - l)))) (kh (sg (IntKind.i64.wrap (m - l))) (sg (IntKind.i64.wrap (m - l)))))
 (mh (kl p p) (kh p p) (sl q q) (sh q q) - ml (ml (sl p p) (sh p p) (kl q q) (kh q q)) (mh (sl p p) (sh p p) (kl q q) (kh q q)) (kl (sg (IntKind.i64.wrap (m - l))) (sg (IntKind.i64.wrap (m - l)))) (kh (sg (IntKind.i64.wrap (m - l))) (sg (IntKind.i64.wrap (m - l))))))])) := by kernel_rfl
theorem vc_gcdistanceG (k : Nat) (p l q m : Int) (sl sh kl kh hl hh : Int → Int → Int) (ml mh zl zh : Int → Int → Int → Int → Int) (al ah sg : Int → Int) (K : Value → Prop) : callsX Tryz.prog (ΓGd k sl sh kl kh hl hh ml mh zl zh al ah sg) (noAnn) 43 [ptr k, wid p l, wid q m] K = (
 True ∧
 True ∧
 PbA k k p p ∧
 True ∧
 PbA k k q q ∧
 PbO k k (kl p p) (kh p p) (kl q q) (kh q q) ∧
 True ∧
 ArcV (sg (IntKind.i64.wrap (m - l))) (sg (IntKind.i64.wrap (m - l))) ∧
 KpOk k k 0 ∧
 PbO k k (ml (kl p p) (kh p p) (kl q q) (kh q q)) (mh (kl p p) (kh p p) (kl q q) (kh q q)) (hl (sg (IntKind.i64.wrap (m - l))) (sg (IntKind.i64.wrap (m - l)))) (hh (sg (IntKind.i64.wrap (m - l))) (sg (IntKind.i64.wrap (m - l)))) ∧
 True ∧
 ArcV (IntKind.i64.wrap (q - p)) (IntKind.i64.wrap (q - p)) ∧
 KpOk k k 0 ∧
 PbO k k (hl (IntKind.i64.wrap (q - p)) (IntKind.i64.wrap (q - p))) (hh (IntKind.i64.wrap (q - p)) (IntKind.i64.wrap (q - p))) (ml (ml (kl p p) (kh p p) (kl q q) (kh q q)) (mh (kl p p) (kh p p) (kl q q) (kh q q)) (hl (sg (IntKind.i64.wrap (m - l))) (sg (IntKind.i64.wrap (m - l)))) (hh (sg (IntKind.i64.wrap (m - l))) (sg (IntKind.i64.wrap (m - l)))))
 (mh (ml (kl p p) (kh p p) (kl q q) (kh q q)) (mh (kl p p) (kh p p) (kl q q) (kh q q)) (hl (sg (IntKind.i64.wrap (m - l))) (sg (IntKind.i64.wrap (m - l)))) (hh (sg (IntKind.i64.wrap (m - l))) (sg (IntKind.i64.wrap (m - l))))) ∧
 AhG (hl (IntKind.i64.wrap (q - p)) (IntKind.i64.wrap (q - p)) + ml (ml (kl p p) (kh p p) (kl q q) (kh q q)) (mh (kl p p) (kh p p) (kl q q) (kh q q)) (hl (sg (IntKind.i64.wrap (m - l))) (sg (IntKind.i64.wrap (m - l)))) (hh (sg (IntKind.i64.wrap (m - l))) (sg (IntKind.i64.wrap (m - l)))))
 (hh (IntKind.i64.wrap (q - p)) (IntKind.i64.wrap (q - p)) + mh (ml (kl p p) (kh p p) (kl q q) (kh q q)) (mh (kl p p) (kh p p) (kl q q) (kh q q)) (hl (sg (IntKind.i64.wrap (m - l))) (sg (IntKind.i64.wrap (m - l)))) (hh (sg (IntKind.i64.wrap (m - l))) (sg (IntKind.i64.wrap (m - l))))) ∧
 KpOk k k 0 ∧
 K
 (Value.agg
 #[Value.int IntKind.i64 (al (hl (IntKind.i64.wrap (q - p)) (IntKind.i64.wrap (q - p)) + ml (ml (kl p p) (kh p p) (kl q q) (kh q q)) (mh (kl p p) (kh p p) (kl q q) (kh q q)) (hl (sg (IntKind.i64.wrap (m - l))) (sg (IntKind.i64.wrap (m - l)))) (hh (sg (IntKind.i64.wrap (m - l))) (sg (IntKind.i64.wrap (m - l)))))),
 Value.int IntKind.i64 (ah (hh (IntKind.i64.wrap (q - p)) (IntKind.i64.wrap (q - p)) + mh (ml (kl p p) (kh p p) (kl q q) (kh q q)) (mh (kl p p) (kh p p) (kl q q) (kh q q)) (hl (sg (IntKind.i64.wrap (m - l))) (sg (IntKind.i64.wrap (m - l)))) (hh (sg (IntKind.i64.wrap (m - l))) (sg (IntKind.i64.wrap (m - l))))))])) := by kernel_rfl
theorem vc_gcinverseG (p l q m : Int) (f g h i : Int → Int → Int → Int → Int) (K : Value → Prop) : callsX Tryz.prog (ΓInG f g h i) (noAnn) 15 [wid p l, wid q m] K = (
 True ∧
 bcase (!decide (PtV p l)) (K (Value.tuple #[Value.agg #[Value.int IntKind.i64 0, Value.int IntKind.i64 0, Value.int IntKind.i64 0, Value.int IntKind.i64 0], Value.int IntKind.i64 1]))
 (True ∧
 bcase (!decide (PtV q m)) (K (Value.tuple #[Value.agg #[Value.int IntKind.i64 0, Value.int IntKind.i64 0, Value.int IntKind.i64 0, Value.int IntKind.i64 0], Value.int IntKind.i64 1]))
 (PtZ p l q m 0 ∧ PtZ p l q m 0 ∧ K (Value.tuple #[Value.agg #[Value.int IntKind.i64 (f p l q m), Value.int IntKind.i64 (g p l q m), Value.int IntKind.i64 (h p l q m), Value.int IntKind.i64 (i p l q m)], Value.int IntKind.i64 0])))) := by kernel_rfl
end Go.Proofs.YtjdcicjhpegphaaGreat
namespace Go.Proofs.YtjdcicjhpegphaaGreat
open Go Go.Abs Go.RowKit Go.Sine
theorem fd2 (x : Int) : x.fdiv (2 ^ 1) = x / 2 := Int.fdiv_eq_ediv_of_nonneg x (by decide)
theorem arc_q {a : Int} (h : -1099511627776 ≤ a ∧ a ≤ 1099511627776) : Q41 a ∧ Q41 (a + 5400000) := by unfold Q41; omega
section
variable {Φ : World → Prop} (hst : ∀ w w', Φ w → Below w.heap.size w w' → Φ w')
include hst
theorem c_havG {a b : Int} (h : ArcV a b) : Ans Tryz.prog Φ 79 [wid a b] (fxOk (hvL a b) (hvH a b)) := by
  refine fn_by hst (s_E6 hst) (vc_trhav a b _) ?_
  have c := cos_okI (a := a) (b := b) h.2.1
  obtain ⟨h1, h2, h3⟩ := h
  have e1 : IntKind.i64.wrap (1073741824 - encH (a + 5400000) (b + 5400000)) = 1073741824 - cH a b := wrap_in (by unfold cL cH at c; omega)
  have e2 : IntKind.i64.wrap (1073741824 - encL (a + 5400000) (b + 5400000)) = 1073741824 - cL a b := wrap_in (by unfold cL cH at c; omega)
  have e3 : IntKind.i64.wrap (1073741824 - cL a b + 1) = 1073741824 - cL a b + 1 := wrap_in (by omega)
  rw [e1, e2, e3, fd2, fd2, decide_eq_true (show ArcV a b from ⟨h1, h2, h3⟩)]
  exact ⟨trivial, ⟨(arc_q ⟨h1, by omega⟩).1, (arc_q ⟨by omega, h3⟩).1⟩, ⟨(arc_q ⟨h1, by omega⟩).2, (arc_q ⟨by omega, h3⟩).2, by omega⟩, rfl⟩
theorem c_ahavG {a b : Int} (h : AhG a b) : Ans Tryz.prog Φ 51 [wid a b] (fxOk (ahL a) (ahH b)) := by
  obtain ⟨h1, h2, h3⟩ := h
  refine fn_by hst (s_Ah hst) (vc_atahav a b _) ?_
  have v := h1
  unfold FixV at v
  have r1 := asn_range (2 * max a 0 - 1073741824)
  have r2 := asn_range (1073741824 - 2 * min b 1073741824)
  have e1 : IntKind.i64.wrap (2 * max a 0) = 2 * max a 0 := wrap_in (by omega)
  have e2 : IntKind.i64.wrap (2 * min b 1073741824) = 2 * min b 1073741824 := wrap_in (by omega)
  have e3 : IntKind.i64.wrap (1073741824 - 2 * max a 0) = 1073741824 - 2 * max a 0 := wrap_in (by omega)
  have e4 : IntKind.i64.wrap (1073741824 - 2 * min b 1073741824) = 1073741824 - 2 * min b 1073741824 := wrap_in (by omega)
  have e5 : asH (1073741824 - 2 * max a 0) = -asnI (2 * max a 0 - 1073741824) := by
    unfold asH
    rw [show -min (1073741824 - 2 * max a 0) 1073741824 = 2 * max a 0 - 1073741824 by omega]
  have e6 : asL (1073741824 - 2 * min b 1073741824) = asnI (1073741824 - 2 * min b 1073741824) := by
    unfold asL
    rw [show max (1073741824 - 2 * min b 1073741824) (-1073741824) = 1073741824 - 2 * min b 1073741824 by omega]
  rw [e1, e2, e3, e4, e5, e6, decide_eq_true h1, decide_eq_true (show max a 0 ≤ min b 1073741824 by omega)]
  have e7 : IntKind.i64.wrap (5400000 - -asnI (2 * max a 0 - 1073741824)) = ahL a := by
    rw [wrap_in (by omega)]
    unfold ahL
    omega
  have e8 : IntKind.i64.wrap (5400000 - asnI (1073741824 - 2 * min b 1073741824)) = ahH b := by
    rw [wrap_in (by omega)]
    rfl
  rw [e7, e8]
  exact ⟨trivial, trivial, ⟨by unfold FixV; omega, by omega, by omega⟩, rfl⟩
theorem s_Gd (k : Nat) (T : TypeId) : Sound Tryz.prog (Zc Φ k T) (ΓGd k encL encH cL cH hvL hvH muL muH bL bH ahL ahH sgI) :=
  Sound.cons (by kernel_rfl) (fun args p v h hp => by unfold vSn at h; split at h <;> cases h; obtain ⟨h1, h2⟩ := hp; subst h1; exact m_gcsin hst h2)
  (Sound.cons (by kernel_rfl) (fun args p v h hp => by unfold vSn at h; split at h <;> cases h; obtain ⟨h1, h2⟩ := hp; subst h1; exact m_gccos hst h2)
  (Sound.cons (by kernel_rfl) (fun args p v h hp => by unfold vMu at h; split at h <;> cases h; obtain ⟨h1, h2⟩ := hp; subst h1; exact m_gcmul hst h2)
  (Sound.cons (by kernel_rfl) (fun args p v h hp => by unfold vAd at h; split at h <;> cases h; obtain ⟨h1, h2⟩ := hp; subst h1; exact m_gcadd hst h2)
  (Sound.cons (by kernel_rfl) (fun args p v h hp => by unfold vSb at h; split at h <;> cases h; obtain ⟨h1, h2⟩ := hp; subst h1; exact m_gcsub hst h2)
  (Sound.cons (by kernel_rfl) (fun args p v h hp => by unfold sKeep at h; split at h <;> cases h; obtain ⟨h1, h2⟩ := hp; subst h1 h2; exact c_numb _ _)
  (Sound.cons (by kernel_rfl) (fun args p v h hp => by unfold sKeep at h; split at h <;> cases h; obtain ⟨h1, h2⟩ := hp; subst h1 h2; exact c_arcg _ _)
  (Sound.cons (by kernel_rfl) (fun args p v h hp => by unfold sOne1 at h; split at h <;> cases h; exact c_gcone (zc_below hst k T) _)
  (Sound.cons (by kernel_rfl) (fun args p v h hp => by split at h <;> cases h; exact c_ansigned (zc_below hst k T) _)
  (Sound.cons (by kernel_rfl) (fun args p v h hp => by unfold sBrg at h; split at h <;> cases h; exact c_atbearing (zc_below hst k T) hp.1 hp.2)
  (Sound.cons (by kernel_rfl) (fun args p v h hp => by unfold sHavG at h; split at h <;> cases h; exact c_havG (zc_below hst k T) hp)
  (Sound.cons (by kernel_rfl) (fun args p v h hp => by unfold sAhvG at h; split at h <;> cases h; exact c_ahavG (zc_below hst k T) hp) Sound.nil)))))))))))
omit hst in
theorem sg_range (n : Int) : -10800000 ≤ sgI n ∧ sgI n < 10800000 := by unfold sgI; split <;> omega
omit hst in
theorem one_arc {n : Int} (h : -21600000 ≤ n ∧ n ≤ 21600000) : ArcV n n := by unfold ArcV; omega
theorem m_distG (k : Nat) (T : TypeId) {p l q m : Int} (hp : PtV p l) (hq : PtV q m) : Ans Tryz.prog (Zc Φ k T) 43 [ptr k, wid p l, wid q m] (wid (dsP p l q m).1 (dsP p l q m).2) := by
  refine fn_by (zc_below hst k T) (s_Gd hst k T) (vc_gcdistanceG k p l q m encL encH cL cH hvL hvH muL muH bL bH ahL ahH sgI _) ?_
  unfold PtV at hp hq
  have w1 : IntKind.i64.wrap (m - l) = m - l := wrap_in (by omega)
  have w2 : IntKind.i64.wrap (q - p) = q - p := wrap_in (by omega)
  rw [w1, w2]
  have s := sg_range (m - l)
  have ah := ds_ahav p l q m
  have h1 := cos_ok (one_le p)
  have h2 := cos_ok (one_le q)
  have h3 := hav_ok (one_le (sgI (m - l)))
  have h4 := hav_ok (one_le (q - p))
  have h5 := mul_ok h1 h2
  have h6 := mul_ok h5 h3
  exact ⟨trivial, trivial, ⟨rfl, one_arc (by omega)⟩, trivial, ⟨rfl, one_arc (by omega)⟩, ⟨rfl, h1, h2⟩, trivial, one_arc (by omega), ⟨rfl, rfl⟩, ⟨rfl, h5, h3⟩, trivial, one_arc (by omega), ⟨rfl, rfl⟩, ⟨rfl, h4, h6⟩, ah, ⟨rfl, rfl⟩, rfl⟩
theorem m_crsG (k : Nat) (T : TypeId) {p l q m : Int} (hp : PtV p l) (hq : PtV q m) : Ans Tryz.prog (Zc Φ k T) 42 [ptr k, wid p l, wid q m] (wid (crP p l q m).1 (crP p l q m).2) := by
  refine fn_by (zc_below hst k T) (s_Gd hst k T) (vc_gccourseG k p l q m encL encH cL cH hvL hvH muL muH bL bH ahL ahH sgI _) ?_
  unfold PtV at hp hq
  have w1 : IntKind.i64.wrap (m - l) = m - l := wrap_in (by omega)
  rw [w1]
  have s := sg_range (m - l)
  have cf := cr_fix p l q m
  have s1 := sin_ok (one_le (sgI (m - l)))
  have s2 := sin_ok (one_le q)
  have s3 := sin_ok (one_le p)
  have c1 := cos_ok (one_le p)
  have c2 := cos_ok (one_le q)
  have c3 := cos_ok (one_le (sgI (m - l)))
  have o1 := mul_ok c1 s2
  have o2 := mul_ok s3 c2
  have o3 := mul_ok o2 c3
  have aq : ArcV q q := one_arc (by omega)
  have ap : ArcV p p := one_arc (by omega)
  have ad : ArcV (sgI (m - l)) (sgI (m - l)) := one_arc (by omega)
  exact ⟨trivial, trivial, ⟨rfl, ad⟩, trivial, ⟨rfl, aq⟩, ⟨rfl, s1, c2⟩, trivial, ⟨rfl, ap⟩, trivial, ⟨rfl, aq⟩, ⟨rfl, c1, s2⟩, trivial, ⟨rfl, ap⟩, trivial, ⟨rfl, aq⟩, ⟨rfl, s3, c2⟩, ⟨rfl, ad⟩, ⟨rfl, o2, c3⟩, ⟨rfl, o1, o3⟩, cf, ⟨rfl, rfl⟩, rfl⟩
end
def crL (p l q m : Int) : Int := (crP p l q m).1
def crH (p l q m : Int) : Int := (crP p l q m).2
def dsL (p l q m : Int) : Int := (dsP p l q m).1
def dsH (p l q m : Int) : Int := (dsP p l q m).2
section
variable {Φ : World → Prop} (hst : ∀ w w', Φ w → Below w.heap.size w w' → Φ w')
include hst
theorem c_invG {p l q m : Int} (hp : PtV p l) (hq : PtV q m) : Ans Tryz.prog Φ 15 [wid p l, wid q m] (pair (arc4 (crL p l q m) (crH p l q m) (dsL p l q m) (dsH p l q m)) (num 0)) := by
  refine fn_by hst (Γ := ΓInG crL crH dsL dsH) ?_ (vc_gcinverseG p l q m crL crH dsL dsH _) ?_
  · refine Sound.cons (by kernel_rfl) (fun args p v h hp => by unfold sPtV at h; split at h <;> cases h; exact c_plvalidpoint hst _ _) (Sound.pcons (by kernel_rfl) (fun args cell p v h hp => ?_) (Sound.pcons (by kernel_rfl) (fun args cell p v h hp => ?_) Sound.nil))
    · unfold pLegG at h
      split at h <;> cases h
      obtain ⟨h1, h2, h3⟩ := hp
      cases h3
      exact zc_pans fun b T => m_crsG hst b T h1 h2
    · unfold pLegG at h
      split at h <;> cases h
      obtain ⟨h1, h2, h3⟩ := hp
      cases h3
      exact zc_pans fun b T => m_distG hst b T h1 h2
  · rw [decide_eq_true hp, decide_eq_true hq]
    exact ⟨trivial, trivial, ⟨hp, hq, rfl⟩, ⟨hp, hq, rfl⟩, rfl⟩
end
end Go.Proofs.YtjdcicjhpegphaaGreat
namespace Go.Proofs.YtjdcicjhpegphaaGreat
open Go Go.Abs Go.RowKit Go.Sine
theorem hafix_run (w : World) (b : Nat) (T : TypeId) (lo hi : Int) (hb : w.heap[b]? = some (.cells #[.int .i64 0] T (0, 0))) :
    Calls Tryz.prog 83 #[.pointer (some ⟨b, 0, none⟩), .agg #[.int .i64 lo, .int .i64 hi], .int .i64 0] w fun e w' => e = .returned (.agg #[.int .i64 lo, .int .i64 hi]) ∧ Below w.heap.size w w' := by
  have hlt : b < w.heap.size := (Array.getElem?_eq_some_iff.1 hb).1
  have hc : ∀ o1 o2, ((w.alloc o1).alloc o2).cell? ⟨b, 0, none⟩ = some (.int .i64 0) := fun o1 o2 => by
    have h1 : ((w.alloc o1).alloc o2).heap[b]? = some (.cells #[.int .i64 0] T (0, 0)) := by
      simp only [World.alloc]
      rw [Array.getElem?_push_lt (by simp; omega), Array.getElem_push_lt (by omega), ← hb]
      simp [hlt]
    unfold World.cell?
    simp [h1]
  have hf : w.frozen? ⟨b, 0, none⟩ = false := by
    unfold World.frozen?
    simp [hb]
  have hs := set_same hb
  clear hb
  go_enter Tryz.func83, Tryz.ntmps83
  go_wp2
  have hsome : (Tryz.prog.underlying 89).isSome = true := by kernel_rfl
  refine bodyPost_ret (results_cell_row (p := 6) (ty := 89) (by kernel_rfl) _ _ (w.heap.size + 1) 89 #[.int .i64 lo, .int .i64 hi] (0, 0) ((Tryz.prog.underlying 89).get hsome) rfl (heap_alloc2_new _ _ _) (by simp) (by kernel_rfl) (by kernel_rfl)) rfl ⟨rfl, ?_⟩
  exact ((Below.refl _ w).alloc (Nat.le_refl _) _).alloc (by simp) _
theorem haarc_run (w : World) (b : Nat) (T : TypeId) (lo hi : Int) (hb : w.heap[b]? = some (.cells #[.int .i64 0] T (0, 0))) :
    Calls Tryz.prog 81 #[.pointer (some ⟨b, 0, none⟩), .agg #[.int .i64 lo, .int .i64 hi], .int .i64 0] w fun e w' => e = .returned (.agg #[.int .i64 lo, .int .i64 hi]) ∧ Below w.heap.size w w' := by
  have hlt : b < w.heap.size := (Array.getElem?_eq_some_iff.1 hb).1
  have hc : ∀ o1 o2, ((w.alloc o1).alloc o2).cell? ⟨b, 0, none⟩ = some (.int .i64 0) := fun o1 o2 => by
    have h1 : ((w.alloc o1).alloc o2).heap[b]? = some (.cells #[.int .i64 0] T (0, 0)) := by
      simp only [World.alloc]
      rw [Array.getElem?_push_lt (by simp; omega), Array.getElem_push_lt (by omega), ← hb]
      simp [hlt]
    unfold World.cell?
    simp [h1]
  have hf : w.frozen? ⟨b, 0, none⟩ = false := by
    unfold World.frozen?
    simp [hb]
  have hs := set_same hb
  clear hb
  go_enter Tryz.func81, Tryz.ntmps81
  go_wp2
  have hsome : (Tryz.prog.underlying 23).isSome = true := by kernel_rfl
  refine bodyPost_ret (results_cell_row (p := 6) (ty := 23) (by kernel_rfl) _ _ (w.heap.size + 1) 23 #[.int .i64 lo, .int .i64 hi] (0, 0) ((Tryz.prog.underlying 23).get hsome) rfl (heap_alloc2_new _ _ _) (by simp) (by kernel_rfl) (by kernel_rfl)) rfl ⟨rfl, ?_⟩
  exact ((Below.refl _ w).alloc (Nat.le_refl _) _).alloc (by simp) _
section
variable {Φ : World → Prop} {b : Nat} {T : TypeId}
theorem c_hafix (lo hi : Int) : Ans Tryz.prog (Zc Φ b T) 83 [ptr b, .agg ⟨[.int .i64 lo, .int .i64 hi]⟩, .int .i64 0] (.agg ⟨[.int .i64 lo, .int .i64 hi]⟩) := fun w h => hafix_run w b T lo hi h.2
theorem c_haarc (lo hi : Int) : Ans Tryz.prog (Zc Φ b T) 81 [ptr b, .agg ⟨[.int .i64 lo, .int .i64 hi]⟩, .int .i64 0] (.agg ⟨[.int .i64 lo, .int .i64 hi]⟩) := fun w h => haarc_run w b T lo hi h.2
end
end Go.Proofs.YtjdcicjhpegphaaGreat
