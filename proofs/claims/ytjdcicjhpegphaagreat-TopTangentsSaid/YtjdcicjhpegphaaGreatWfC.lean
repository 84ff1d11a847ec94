/- The examples that TopTangents looks at: they come out. -/
import Derived.Test.YtjdcicjhpegphaaGreatWfV
import Derived.Test.YtjdcicjhpegphaaGreatWeV
import Derived.Test.YtjdcicjhpegphaaGreatWcC
import Derived.Test.YtjdcicjhpegphaaGreatCiC
namespace Go.Proofs.YtjdcicjhpegphaaGreat
open Go Go.Abs Go.RowKit Go.Sine
set_option linter.unusedVariables false
set_option linter.unusedSimpArgs false
instance (a b : Int) : Decidable (AB0 a b) := by unfold AB0; infer_instance
instance (a b : Int) : Decidable (AB6 a b) := by unfold AB6; infer_instance
instance (a b c : Int) : Decidable (En0 a b c) := by unfold En0; infer_instance
instance (a b c : Int) : Decidable (En1 a b c) := by unfold En1; infer_instance
instance (a b c d n : Int) : Decidable (QuP a b c d n) := by unfold QuP; infer_instance
instance (l r c : Int) : Decidable (ClOk l r c) := by unfold ClOk; infer_instance
instance (x y z u a b c d : Int) : Decidable (BoOk x y z u a b c d) := by unfold BoOk; infer_instance
variable {Φ : World → Prop} (hst : ∀ w w', Φ w → Below w.heap.size w w' → Φ w')
include hst
theorem s_Ru3 : Sound Tryz.prog Φ ΓRu3 :=
  Sound.cons (by kernel_rfl) (fun args p v h hp => by unfold sSin6 at h; split at h <;> cases h; exact c_sin6 hst hp)
  (Sound.cons (by kernel_rfl) (fun args p v h hp => by
    unfold sCos6 at h
    split at h
    · rename_i a b
      cases e : decide (b = 0) with
      | true =>
        rw [e] at h
        cases h
        have b0 := of_decide_eq_true e
        have := c_cos6 hst (.inl ⟨b0, hp⟩)
        rw [if_pos b0] at this
        exact this
      | false =>
        rw [e] at h
        cases h
        have b0 := of_decide_eq_false e
        have := c_cos6 hst (.inr ⟨b0, hp⟩)
        rw [if_neg b0] at this
        exact this
    · cases h)
  (Sound.cons (by kernel_rfl) (fun args p v h hp => by unfold sFxValid at h; split at h <;> cases h; exact c_fxvalid hst _ _)
  (Sound.cons (by kernel_rfl) (fun args p v h hp => by unfold sFxBoth at h; split at h <;> cases h; exact c_fxboth hst _ _ _ _)
  (Sound.cons (by kernel_rfl) (fun args p v h hp => by unfold sFxFactor at h; split at h <;> cases h; exact c_fxfactor hst _)
  (Sound.cons (by kernel_rfl) (fun args p v h hp => by
    unfold sEnc6 at h
    split at h
    · rename_i x n d
      cases e : decide (x = 0) with
      | true =>
        rw [e] at h
        cases h
        obtain ⟨h1, h2, h3⟩ := hp
        subst h1 h2 h3
        exact c_enc0 hst
      | false =>
        rw [e] at h
        cases h
        obtain ⟨h1, h2, h3⟩ := hp
        subst h1 h2 h3
        exact c_enc6 hst
    · cases h)
  (Sound.cons (by kernel_rfl) (fun args p v h hp => by unfold sQuo6 at h; split at h <;> cases h; exact c_quo6 hst hp)
  (Sound.cons (by kernel_rfl) (fun args p v h hp => by unfold sAnValid at h; split at h <;> cases h; exact c_anvalid hst _ _)
  (Sound.cons (by kernel_rfl) (fun args p v h hp => by unfold sSgn at h; split at h <;> cases h; exact c_ansigned hst _)
  (Sound.cons (by kernel_rfl) (fun args p v h hp => by unfold sPlV at h; split at h <;> cases h; exact c_plvalid hst _ _ _ _) Sound.nil)))))))))
theorem s_Ar3 : Sound Tryz.prog Φ ΓAr3 :=
  Sound.cons (by kernel_rfl) (fun args p v h hp => by unfold sPlV at h; split at h <;> cases h; exact c_plvalid hst _ _ _ _)
  (Sound.cons (by kernel_rfl) (fun args p v h hp => by unfold sBox at h; split at h <;> (try simp only [forceI_eq] at h) <;> cases h; exact c_rgbox hst hp)
  (Sound.cons (by kernel_rfl) (fun args p v h hp => by unfold sMeet at h; split at h <;> (try simp only [forceI_eq] at h) <;> cases h; obtain ⟨⟨z1, z2, z3, z4⟩, hr⟩ := hp; subst z1 z2 z3 z4; exact c_rgmeets hst ⟨⟨rfl, rfl, rfl, rfl⟩, hr⟩)
  (Sound.cons (by kernel_rfl) (fun args p v h hp => by unfold sInsd at h; split at h <;> cases h; obtain ⟨⟨z1, z2, z3, z4⟩, hr⟩ := hp; subst z1 z2 z3 z4; exact c_plinside hst ⟨⟨rfl, rfl, rfl, rfl⟩, hr⟩)
  (Sound.rcons (by kernel_rfl) (fun ads p rds h hp => by unfold rChi at h; split at h <;> (try simp only [forceI_eq] at h) <;> cases h; exact r_children hst hp)
  (Sound.cons (by kernel_rfl) (fun args p v h hp => by unfold sClV at h; split at h <;> cases h; exact c_clvalid hst hp) Sound.nil)))))
theorem c_plane6 : Ans Tryz.prog Φ 100 [arc4 0 0 60000 60000] (.tuple ⟨[.agg ⟨[num 60000, num 60000]⟩, .agg ⟨[num 0, num 0]⟩, num 0]⟩) := by
  refine fn_byN hst (s_Ru3 hst) (vc_plane6 _) ?_
  repeat' apply And.intro
  all_goals first | exact True.intro | decide +kernel | kernel_rfl
theorem c_dlon6 : Ans Tryz.prog Φ 61 [wid 0 60000, wid 0 0] (fxOk 0 0) := by
  refine fn_byN hst (s_Ru3 hst) (vc_dlon6 _) ?_
  repeat' apply And.intro
  all_goals first | exact True.intro | decide +kernel | kernel_rfl
theorem s_Ru4 : Sound Tryz.prog Φ ΓRu4 :=
  Sound.cons (by kernel_rfl) (fun args p v h hp => by unfold sPla at h; split at h <;> cases h; unfold Pl4 at hp; cases hp; exact c_plane6 hst)
  (Sound.cons (by kernel_rfl) (fun args p v h hp => by unfold sDlo at h; split at h <;> cases h; unfold Dl4 at hp; cases hp; exact c_dlon6 hst)
  (Sound.cons (by kernel_rfl) (fun args p v h hp => by unfold sAnValid at h; split at h <;> cases h; exact c_anvalid hst _ _)
  (Sound.cons (by kernel_rfl) (fun args p v h hp => by unfold sSgn at h; split at h <;> cases h; exact c_ansigned hst _)
  (Sound.cons (by kernel_rfl) (fun args p v h hp => by unfold sPlV at h; split at h <;> cases h; exact c_plvalid hst _ _ _ _) Sound.nil))))
theorem r_run3 : RAns Tryz.prog Φ 23 [.one (.v (plc 0 0 0 0)), .one (.r 53 lET [(0, 0, 60000, 60000)])] [.agg [.v (num 60000), .v (num 60000), .v (num 0), .v (num 0)], .one (.v (num 0))] := by
  refine rfn_byN hst (s_Ru4 hst) (vc_run3 0) ?_
  repeat' apply And.intro
  all_goals first | exact True.intro | kernel_rfl | (unfold Pl4; kernel_rfl) | (unfold Dl4; kernel_rfl)
theorem r_around3 : RAns Tryz.prog Φ 25 [.one (.v (plc 0 0 0 0)), .one (.v (num 3))] [.one (.r 111 cET outL), .one (.v (num 0))] := by
  refine rfn_byN hst (s_Ar3 hst) (vc_around3 0) ?_
  repeat' apply And.intro
  all_goals first | exact True.intro | decide +kernel | exact congrArg (Value.int IntKind.i64) (by decide +kernel)
theorem s_Wy {X Y : Int} (hi : Ans Tryz.prog Φ 15 [wid 0 0, wid 0 3600000] (pair (arc4 X Y 3600000 3600000) (num 0))) : Sound Tryz.prog Φ (ΓWy X Y) :=
  Sound.cons (by kernel_rfl) (fun args p v h hp => by unfold sInv at h; split at h <;> cases h; unfold P6 at hp; cases hp; exact hi)
  (Sound.cons (by kernel_rfl) (fun args p v h hp => by unfold sAl6 at h; split at h <;> cases h; unfold L6 at hp; cases hp; exact c_al6 hst)
  (Sound.cons (by kernel_rfl) (fun args p v h hp => by unfold sOne1 at h; split at h <;> cases h; exact c_wayat hst _)
  (Sound.rcons (by kernel_rfl) (fun ads p rds h hp => by unfold rRun3 at h; split at h <;> cases h; obtain ⟨⟨z1, z2, z3, z4⟩, hr⟩ := hp; subst z1 z2 z3 z4 hr; exact r_run3 hst)
  (Sound.rcons (by kernel_rfl) (fun ads p rds h hp => by unfold rAro3 at h; split at h <;> cases h; obtain ⟨⟨z1, z2, z3, z4⟩, hr⟩ := hp; subst z1 z2 z3 z4 hr; exact r_around3 hst) Sound.nil))))
theorem c_wayawake {X Y : Int} (hi : Ans Tryz.prog Φ 15 [wid 0 0, wid 0 3600000] (pair (arc4 X Y 3600000 3600000) (num 0))) : Ans Tryz.prog Φ 5 [] (.bool true) := by
  refine fn_by hst (s_Wy hst hi) (vc_wayawake X Y _) ?_
  exact ⟨rfl, trivial, ⟨⟨rfl, rfl, rfl, rfl⟩, rfl⟩, trivial, rfl, ⟨⟨rfl, rfl, rfl, rfl⟩, rfl⟩, trivial, trivial, trivial, rfl⟩
end Go.Proofs.YtjdcicjhpegphaaGreat
