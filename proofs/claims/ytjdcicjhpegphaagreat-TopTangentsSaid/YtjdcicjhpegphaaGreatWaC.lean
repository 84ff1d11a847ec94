/- The examples that TopTangents looks at: contracts of what is called. -/
import Derived.Test.YtjdcicjhpegphaaGreatWaV
namespace Go.Proofs.YtjdcicjhpegphaaGreat
open Go Go.Abs Go.RowKit Go.Sine
set_option linter.unusedVariables false
set_option linter.unusedSimpArgs false
section
variable {Φ : World → Prop} (hst : ∀ w w', Φ w → Below w.heap.size w w' → Φ w')
include hst
theorem c_gcone (n : Int) : Ans Tryz.prog Φ 71 [num n] (wid n n) := fn_by hst Sound.nil (vc_gcone n _) rfl
theorem c_trhav {a b : Int} (h : HvOk a b) : Ans Tryz.prog Φ 79 [wid a b] (fxOk (hvI a) (hvI a)) := by
  obtain ⟨h1, h2⟩ := h
  subst h1
  refine fn_by hst (s_E6 hst) (vc_trhav a a _) ?_
  rcases h2 with e | e
  · subst e
    rw [show decide (ArcV 0 0) = true from by decide +kernel, show (IntKind.i64.wrap (1073741824 - encH (0 + 5400000) (0 + 5400000))).fdiv (2 ^ 1) = hvI 0 from by decide +kernel, show (IntKind.i64.wrap (IntKind.i64.wrap (1073741824 - encL (0 + 5400000) (0 + 5400000)) + 1)).fdiv (2 ^ 1) = hvI 0 from by decide +kernel]
    exact ⟨trivial, ⟨by unfold Q41; decide, by unfold Q41; decide⟩, ⟨by unfold Q41; decide, by unfold Q41; decide, by decide⟩, rfl⟩
  · subst e
    rw [show decide (ArcV 3600000 3600000) = true from by decide +kernel, show (IntKind.i64.wrap (1073741824 - encH (3600000 + 5400000) (3600000 + 5400000))).fdiv (2 ^ 1) = hvI 3600000 from by decide +kernel, show (IntKind.i64.wrap (IntKind.i64.wrap (1073741824 - encL (3600000 + 5400000) (3600000 + 5400000)) + 1)).fdiv (2 ^ 1) = hvI 3600000 from by decide +kernel]
    exact ⟨trivial, ⟨by unfold Q41; decide, by unfold Q41; decide⟩, ⟨by unfold Q41; decide, by unfold Q41; decide, by decide⟩, rfl⟩
theorem s_Ah : Sound Tryz.prog Φ ΓAh :=
  Sound.cons (by kernel_rfl) (fun args p v h hp => by unfold sFxValid at h; split at h <;> cases h; exact c_fxvalid hst _ _)
  (Sound.cons (by kernel_rfl) (fun args p v h hp => by unfold sAtPart at h; split at h <;> cases h; exact c_atpart hst _ _ _ _)
  (Sound.cons (by kernel_rfl) (fun args p v h hp => by unfold sAsn at h; split at h <;> cases h; exact c_atasin hst hp.1 hp.2.1 hp.2.2) Sound.nil))
theorem c_atahav {a b : Int} (h : AhOk a b) : Ans Tryz.prog Φ 51 [wid a b] (fxOk 3600000 3600000) := by
  obtain ⟨h1, h2⟩ := h
  subst h1 h2
  refine fn_by hst (s_Ah hst) (vc_atahav 268435456 268435456 _) ?_
  rw [show decide (FixV 268435456 268435456) = true from by decide +kernel, show decide (max (268435456 : Int) 0 ≤ min 268435456 1073741824) = true from by decide +kernel, show IntKind.i64.wrap (1073741824 - IntKind.i64.wrap (2 * min (268435456 : Int) 1073741824)) = 536870912 from by decide +kernel, show IntKind.i64.wrap (1073741824 - IntKind.i64.wrap (2 * max (268435456 : Int) 0)) = 536870912 from by decide +kernel, show IntKind.i64.wrap (5400000 - asH 536870912) = 3600000 from by decide +kernel, show IntKind.i64.wrap (5400000 - asL 536870912) = 3600000 from by decide +kernel]
  exact ⟨trivial, trivial, ⟨by decide +kernel, by decide, by decide⟩, rfl⟩
theorem s_Gc (k : Nat) (T : TypeId) : Sound Tryz.prog (Zc Φ k T) (ΓGc k encL encH cL cH muL muH bL bH) :=
  Sound.cons (by kernel_rfl) (fun args p v h hp => by unfold vSn at h; split at h <;> cases h; obtain ⟨h1, h2⟩ := hp; subst h1; exact m_gcsin hst h2)
  (Sound.cons (by kernel_rfl) (fun args p v h hp => by unfold vSn at h; split at h <;> cases h; obtain ⟨h1, h2⟩ := hp; subst h1; exact m_gccos hst h2)
  (Sound.cons (by kernel_rfl) (fun args p v h hp => by unfold vMu at h; split at h <;> cases h; obtain ⟨h1, h2⟩ := hp; subst h1; exact m_gcmul hst h2)
  (Sound.cons (by kernel_rfl) (fun args p v h hp => by unfold vAd at h; split at h <;> cases h; obtain ⟨h1, h2⟩ := hp; subst h1; exact m_gcadd hst h2)
  (Sound.cons (by kernel_rfl) (fun args p v h hp => by unfold vSb at h; split at h <;> cases h; obtain ⟨h1, h2⟩ := hp; subst h1; exact m_gcsub hst h2)
  (Sound.cons (by kernel_rfl) (fun args p v h hp => by unfold sKeep at h; split at h <;> cases h; obtain ⟨h1, h2⟩ := hp; subst h1 h2; exact c_numb _ _)
  (Sound.cons (by kernel_rfl) (fun args p v h hp => by unfold sKeep at h; split at h <;> cases h; obtain ⟨h1, h2⟩ := hp; subst h1 h2; exact c_arcg _ _)
  (Sound.cons (by kernel_rfl) (fun args p v h hp => by unfold sOne1 at h; split at h <;> cases h; exact c_gcone (zc_below hst k T) _)
  (Sound.cons (by kernel_rfl) (fun args p v h hp => by unfold sSgn at h; split at h <;> cases h; exact c_ansigned (zc_below hst k T) _)
  (Sound.cons (by kernel_rfl) (fun args p v h hp => by unfold sBrg at h; split at h <;> cases h; exact c_atbearing (zc_below hst k T) hp.1 hp.2)
  (Sound.cons (by kernel_rfl) (fun args p v h hp => by unfold sHav at h; split at h <;> cases h; exact c_trhav (zc_below hst k T) hp)
  (Sound.cons (by kernel_rfl) (fun args p v h hp => by unfold sAhv at h; split at h <;> cases h; exact c_atahav (zc_below hst k T) hp) Sound.nil)))))))))))
theorem m_gcdistance (k : Nat) (T : TypeId) : Ans Tryz.prog (Zc Φ k T) 43 [ptr k, wid 0 0, wid 0 3600000] (wid 3600000 3600000) :=
  fn_by (zc_below hst k T) (s_Gc hst k T) (vc_gcdistance k encL encH cL cH muL muH bL bH _)
    ⟨trivial, trivial, ⟨rfl, by decide +kernel⟩, trivial, ⟨rfl, by decide +kernel⟩, ⟨rfl, by decide +kernel, by decide +kernel⟩, trivial, ⟨rfl, .inr (by decide +kernel)⟩, ⟨rfl, rfl⟩, ⟨rfl, by decide +kernel, by decide +kernel⟩, trivial, ⟨rfl, .inl (by decide +kernel)⟩, ⟨rfl, rfl⟩, ⟨rfl, by decide +kernel, by decide +kernel⟩, ⟨by decide +kernel, by decide +kernel⟩, ⟨rfl, rfl⟩, rfl⟩
end
theorem m_gccourse : ∃ X Y : Int, ∀ {Φ : World → Prop} (hst : ∀ w w', Φ w → Below w.heap.size w w' → Φ w') (k : Nat) (T : TypeId), Ans Tryz.prog (Zc Φ k T) 42 [ptr k, wid 0 0, wid 0 3600000] (wid X Y) :=
  ⟨_, _, fun hst k T => fn_by (zc_below hst k T) (s_Gc hst k T) (vc_gccourse k encL encH cL cH muL muH bL bH _)
    ⟨trivial, trivial, ⟨rfl, by decide +kernel⟩, trivial, ⟨rfl, by decide +kernel⟩, ⟨rfl, by decide +kernel, by decide +kernel⟩, trivial, ⟨rfl, by decide +kernel⟩, trivial, ⟨rfl, by decide +kernel⟩, ⟨rfl, by decide +kernel, by decide +kernel⟩, trivial, ⟨rfl, by decide +kernel⟩, trivial, ⟨rfl, by decide +kernel⟩, ⟨rfl, by decide +kernel, by decide +kernel⟩, ⟨rfl, by decide +kernel⟩, ⟨rfl, by decide +kernel, by decide +kernel⟩, ⟨rfl, by decide +kernel, by decide +kernel⟩, ⟨by decide +kernel, by decide +kernel⟩, ⟨rfl, rfl⟩, rfl⟩⟩
end Go.Proofs.YtjdcicjhpegphaaGreat
