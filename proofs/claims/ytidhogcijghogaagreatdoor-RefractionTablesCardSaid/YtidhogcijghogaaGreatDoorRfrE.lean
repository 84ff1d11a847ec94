/- Refraction: the example, and what the laws share. -/
import Derived.Test.YtidhogcijghogaaGreatDoorRfrC
import Derived.Test.YtidhogcijghogaaGreatDoorRfrK
namespace Go.Proofs.YtidhogcijghogaaGreatDoor
open Go Go.Abs Go.RowKit
set_option linter.unusedVariables false
set_option linter.unusedSimpArgs false
def Any (_ : World) : Prop := True
theorem st_any : ∀ w w', Any w → Below w.heap.size w w' → Any w' := fun _ _ _ _ => trivial
theorem c_awake20 : Ans Tryz.prog Any 4 [] (.bool true) := by
  refine fn_by st_any (Sound.cons (by kernel_rfl) (fun args p v h _ => by unfold sMean at h; split at h <;> cases h; exact c_rfMean st_any _ _) (Sound.cons (by kernel_rfl) (fun args p v h _ => by unfold sFactor at h; split at h <;> cases h; exact c_rffactor st_any _ _) Sound.nil)) (vc_awake20 _) ⟨trivial, trivial, ?_⟩
  exact congrArg Value.bool (by decide +kernel)
theorem at_zero (a b t p : Int) : atE a b t p = 0 ↔ okT a b t p := by
  unfold atE okT okA
  constructor
  · intro h
    by_cases v : ArcV a b
    · rw [pick_t v] at h
      by_cases r : InA a b ∧ Wth t p
      · exact ⟨⟨v, r.1⟩, r.2⟩
      · rw [pick_f r] at h; cases h
    · rw [pick_f v] at h; cases h
  · rintro ⟨⟨v, r⟩, w⟩
    rw [pick_t v, pick_t ⟨r, w⟩]
theorem at_ne {a b t p : Int} (h : (atE a b t p != 0) = true) : ¬ okT a b t p := fun k => by
  rw [(at_zero a b t p).mpr k] at h; cases h
theorem at_eq {a b t p : Int} (h : (atE a b t p != 0) = false) : okT a b t p := (at_zero a b t p).mp (by simpa using h)
theorem point_ok {u t p : Int} (hu : RU u) (w : Wth t p) : okT u u t p := ⟨⟨⟨by have := hu.1; omega, Int.le_refl _, by have := hu.2; omega⟩, hu.1, hu.2⟩, w⟩
theorem point_ru {u t p : Int} (h : okT u u t p) : RU u ∧ Wth t p := ⟨(ru_of h.1).1, h.2⟩
end Go.Proofs.YtidhogcijghogaaGreatDoor
