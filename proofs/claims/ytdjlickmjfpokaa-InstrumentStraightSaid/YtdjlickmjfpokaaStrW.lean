/- A further entry: contracts of the callees of the law. -/
import Derived.Test.YtdjlickmjfpokaaStrV
import Derived.Test.YtdjlickmjfpokaaOpen
namespace Go.Proofs.Ytdjlickmjfpokaa
open Go Go.Abs Go.RowKit
set_option linter.unusedVariables false
set_option linter.unusedSimpArgs false
theorem cell_heap {w : World} {b o : Nat} {cs : Array Value} {T : TypeId} {fz : Nat × Nat} {v : Value} (h : w.heap[b]? = some (.cells cs T fz)) (hv : cs.toList[o]? = some v) : w.cell? ⟨b, o, none⟩ = some v := by
  unfold World.cell?
  simp only [h]
  simpa using hv
theorem tab_of {w : World} {v : Value} {xs : List (Int × Int)} (H : Holds w v 42 pE2 xs) : ∃ A c, v = .slice A xs.length c ∧ Tab w A xs := by
  by_cases h0 : xs.length = 0
  · obtain ⟨a, c, rfl⟩ := H.zero h0
    exact ⟨a, c, by rw [h0], fun h => by omega⟩
  · obtain ⟨b, off, c, cs, T', fz, rfl, hc, hh, he⟩ := H.some' h0
    refine ⟨_, c, rfl, fun _ => ⟨b, off, rfl, ?_, fun k hk => ?_⟩⟩
    · rw [Array.getElem?_eq_some_iff] at hh
      exact hh.1
    · have he' : (cs.toList.drop (off)).take (xs.length * 2) = xs.flatMap pE2.enc.enc := he
      have g : ∀ f, f < 2 → cs.toList[off + (k * 2 + f)]? = (pE2.enc.enc (xs.getD k (0, 0)))[f]? := fun f hf => by
        have e := flat_get (E := pE2.enc) (xs := xs) (j := k) (f := f) hf hk
        rw [← he', List.getElem?_take_of_lt (by show k * 2 + f < _; omega), List.getElem?_drop] at e
        exact e
      refine ⟨cell_heap hh ?_, cell_heap hh ?_⟩
      · have := g 0 (by omega)
        rw [Nat.add_zero] at this
        rw [this]
        rfl
      · have := g 1 (by omega)
        rw [show off + k * 2 + 1 = off + (k * 2 + 1) by omega, this]
        rfl
theorem tab_holds {w : World} {A : Option Addr} {c : Nat} {l : List (Int × Int)} (h : Tab w A l) (hc : l.length ≤ c) : Holds w (.slice A l.length c) 42 pE2 l := by
  refine ⟨fun q => ⟨A, c, by rw [q]⟩, fun q => ?_⟩
  obtain ⟨b, off, rfl, hE⟩ := h (by omega)
  obtain ⟨hb, he⟩ := hE
  have h0 := (he 0 (by omega)).1
  obtain ⟨cs, T', fz, hcell⟩ : ∃ cs T' fz, w.heap[b]? = some (.cells cs T' fz) := by
    unfold World.cell? at h0
    split at h0
    · rename_i c T fz hh
      exact ⟨c, T, fz, hh⟩
    · cases h0
  have cell : ∀ i, w.cell? ⟨b, off + i, none⟩ = cs.toList[off + i]? := fun i => by
    unfold World.cell?
    rw [hcell]
    simp
  refine ⟨b, off, c, cs, T', fz, rfl, hc, hcell, ?_⟩
  show List.take (l.length * 2) (List.drop off cs.toList) = l.flatMap pE2.enc.enc
  have len : (l.flatMap pE2.enc.enc).length = l.length * 2 := flat_length pE2 l
  apply List.ext_getElem?
  intro j
  by_cases hj : j < l.length * 2
  · rw [List.getElem?_take_of_lt hj, List.getElem?_drop, ← cell]
    have hk : j / 2 < l.length := by omega
    obtain ⟨e0, e1⟩ := he (j / 2) hk
    have g : ∀ f, f < 2 → (l.flatMap pE2.enc.enc)[j / 2 * 2 + f]? = (pE2.enc.enc (l.getD (j / 2) (0, 0)))[f]? := fun f hf => flat_get (E := pE2.enc) (xs := l) (j := j / 2) (f := f) hf hk
    rcases (show j % 2 = 0 ∨ j % 2 = 1 by omega) with hm | hm
    · have := g 0 (by omega)
      rw [show j / 2 * 2 + 0 = j by omega] at this
      rw [this, show off + j = off + j / 2 * 2 by omega, e0]
      rfl
    · have := g 1 (by omega)
      rw [show j / 2 * 2 + 1 = j by omega] at this
      rw [this, show off + j = off + j / 2 * 2 + 1 by omega, e1]
      rfl
  · rw [List.getElem?_eq_none (by simp; omega), List.getElem?_eq_none (by omega)]
def Any (_ : World) : Prop := True
theorem st_any : ∀ w w', Any w → Below w.heap.size w w' → Any w' := fun _ _ _ _ => trivial
/-- The correction, or nothing. -/
def okC (k : Int) (xs : List (Int × Int)) (h : Int) : Prop := Valid18 k xs ∧ -60000 ≤ h ∧ h ≤ 7800000
noncomputable def clF (k : Int) (xs : List (Int × Int)) (h : Int) : Int := by classical exact if okC k xs h then cLo xs h + k else 0
noncomputable def chF (k : Int) (xs : List (Int × Int)) (h : Int) : Int := by classical exact if okC k xs h then cHi xs h + k else 0
noncomputable def ceF (k : Int) (xs : List (Int × Int)) (h : Int) : Int := by classical exact if Valid18 k xs then (if -60000 ≤ h ∧ h ≤ 7800000 then 0 else 2) else 1
theorem c_yes {k : Int} {xs : List (Int × Int)} {h : Int} (o : okC k xs h) : clF k xs h = cLo xs h + k ∧ chF k xs h = cHi xs h + k ∧ ceF k xs h = 0 := by
  unfold clF chF ceF
  exact ⟨if_pos o, if_pos o, by rw [if_pos o.1, if_pos o.2]⟩
theorem c_inv {k : Int} {xs : List (Int × Int)} {h : Int} (o : ¬ Valid18 k xs) : clF k xs h = 0 ∧ chF k xs h = 0 ∧ ceF k xs h = 1 := by
  unfold clF chF ceF
  exact ⟨if_neg fun q => o q.1, if_neg fun q => o q.1, if_neg o⟩
theorem c_rng {k : Int} {xs : List (Int × Int)} {h : Int} (v : Valid18 k xs) (o : ¬ (-60000 ≤ h ∧ h ≤ 7800000)) : clF k xs h = 0 ∧ chF k xs h = 0 ∧ ceF k xs h = 2 := by
  unfold clF chF ceF
  exact ⟨if_neg fun q => o q.2, if_neg fun q => o q.2, by rw [if_pos v, if_neg o]⟩
theorem corr_any (k : Int) (A : Option Addr) (c : Nat) (xs : List (Int × Int)) (h : Int) (w : World) (hT : Tab w A xs) :
    Calls Try.prog 15 #[.agg #[.int .i64 k, .slice A xs.length c], .int .i64 h] w fun e w' =>
      e = .returned (.tuple #[.agg #[.int .i64 (clF k xs h), .int .i64 (chF k xs h)], .int .i64 (ceF k xs h)]) ∧ Below w.heap.size w w' := by
  by_cases v : Valid18 k xs
  · by_cases r : -60000 ≤ h ∧ h ≤ 7800000
    · obtain ⟨e1, e2, e3⟩ := c_yes ⟨v, r⟩
      rw [e1, e2, e3]
      exact corr_ok k A c xs h w hT v r.1 r.2
    · obtain ⟨e1, e2, e3⟩ := c_rng v r
      rw [e1, e2, e3]
      exact corr_range k A c xs h w hT v (by omega)
  · obtain ⟨e1, e2, e3⟩ := c_inv (h := h) v
    rw [e1, e2, e3]
    exact corr_arg k A c xs h w hT v
theorem r_validS (k : Int) (xs : List (Int × Int)) : RAns Try.prog Any 17 [insA k xs] [.one (.v (.bool (vldB k xs)))] := by
  rintro w vs cells hw hsh hcd
  match vs, hsh with
  | [v], hsh =>
    obtain ⟨us, cs, e1, hl, e2, e3⟩ := hsh
    have e3 : cs = [] := e3
    subst e3
    match us, hl, e1, e2 with
    | [u1, u2], _, e1, e2 =>
      subst e1
      have e2 : cells = [u1, u2] := e2
      subst e2
      obtain ⟨h1, h2, _⟩ := hcd
      have h1 : u1 = num k := h1
      subst h1
      obtain ⟨A, c, e4, hT⟩ := tab_of h2
      subst e4
      refine (inValid_any k A c xs w hT).mono ?_
      rintro e w' ⟨rfl, hb⟩
      exact ⟨hb, [_], [_], [], rfl, ⟨[], rfl, rfl⟩, ⟨rfl, rfl⟩, by simp⟩
theorem r_corrS (k : Int) (xs : List (Int × Int)) (h : Int) : RAns Try.prog Any 15 [insA k xs, .one (.v (num h))] [.agg [.v (num (clF k xs h)), .v (num (chF k xs h))], .one (.v (num (ceF k xs h)))] := by
  rintro w vs cells hw hsh hcd
  match vs, hsh with
  | [v, v2], hsh =>
    obtain ⟨us, cs, e1, hl, e2, cs2, e3, e4⟩ := hsh
    have e4 : cs2 = [] := e4
    subst e4
    subst e3
    match us, hl, e1, e2 with
    | [u1, u2], _, e1, e2 =>
      subst e1
      have e2 : cells = [u1, u2, v2] := e2
      subst e2
      obtain ⟨h1, h2, h3, _⟩ := hcd
      have h1 : u1 = num k := h1
      have h3 : v2 = num h := h3
      subst h1
      subst h3
      obtain ⟨A, c, e4, hT⟩ := tab_of h2
      subst e4
      refine (corr_any k A c xs h w hT).mono ?_
      rintro e w' ⟨rfl, hb⟩
      exact ⟨hb, [.agg #[num (clF k xs h), num (chF k xs h)], num (ceF k xs h)], [num (clF k xs h), num (chF k xs h), num (ceF k xs h)], [], rfl, ⟨[_, _], [_], rfl, rfl, rfl, ⟨[], rfl, rfl⟩⟩, ⟨rfl, rfl, rfl, rfl⟩, by simp⟩
noncomputable def bpF (xs : List (Int × Int)) (n : Int) : Int := (pos xs n : Nat)
noncomputable def btF (xs : List (Int × Int)) (n : Int) : Bool := there xs n (pos xs n)
theorem r_bsfS (xs : List (Int × Int)) (n : Int) (f : FuncId) (ok : BsfOk xs n f) : RAns Try.prog Any 23 [.one (.r 42 pE2 xs), .one (.v (num n)), .one (.v (.func (.func f) #[] #[]))] [.one (.v (num (bpF xs n))), .one (.v (.bool (btF xs n)))] := by
  obtain ⟨h100, n0, n1, rfl, hA, hr⟩ := ok
  rintro w vs cells hw hsh hcd
  match vs, hsh with
  | [v, v2, v3], hsh =>
    obtain ⟨cs, e1, cs2, e2, cs3, e3, e4⟩ := hsh
    have e4 : cs3 = [] := e4
    subst e4 e3 e2 e1
    obtain ⟨h1, h2, h3, _⟩ := hcd
    have h2 : v2 = num n := h2
    have h3 : v3 = .func (.func 24) #[] #[] := h3
    subst h2
    subst h3
    obtain ⟨A, c, e4, hT⟩ := tab_of h1
    subst e4
    by_cases h0 : xs.length = 0
    · have hx : xs = [] := List.eq_nil_of_length_eq_zero h0
      subst hx
      have hF : Found ([] : List (Int × Int)) n 0 := ⟨Nat.le_refl _, fun k hk => by omega, fun k _ hk => by simp at hk⟩
      have e5 : bpF [] n = 0 := by unfold bpF; rw [← hF.pos]; rfl
      have e6 : btF [] n = false := by unfold btF; rw [← hF.pos]; rfl
      rw [e5, e6]
      refine (bsf_strF_nil A c n w).mono ?_
      rintro e w' ⟨rfl, rfl⟩
      exact ⟨Below.refl _ _, [num 0, .bool false], [num 0, .bool false], [], rfl, ⟨_, rfl, _, rfl, rfl⟩, ⟨rfl, rfl, rfl⟩, by simp⟩
    · obtain ⟨b, off, rfl, hE⟩ := hT (by omega)
      refine (bsf_strF b off c xs n w h100 ⟨n0, n1⟩ hr hA hE).mono ?_
      rintro e w' ⟨p, hF, rfl, hb⟩
      have e5 : bpF xs n = (p : Nat) := by unfold bpF; rw [← hF.pos]
      have e6 : btF xs n = there xs n p := by unfold btF; rw [← hF.pos]
      rw [e5, e6]
      exact ⟨hb, [num (p : Nat), .bool (there xs n p)], [num (p : Nat), .bool (there xs n p)], [], rfl, ⟨_, rfl, _, rfl, rfl⟩, ⟨rfl, rfl, rfl⟩, by simp⟩
theorem s_St : Sound Try.prog Any (ΓSt vldB clF chF ceF bpF btF) :=
  Sound.cons (by kernel_rfl) (fun args p v h _ => by split at h <;> cases h; exact fun w _ => awake_any w)
  (Sound.rcons (by kernel_rfl) (fun ads p rds h _ => by split at h <;> cases h; exact r_validS _ _)
  (Sound.rcons (by kernel_rfl) (fun ads p rds h _ => by split at h <;> cases h; exact r_corrS _ _ _)
  (Sound.rcons (by kernel_rfl) (fun ads p rds h hp => by split at h <;> cases h; exact r_bsfS _ _ _ hp)
  (Sound.ocons (by kernel_rfl) (fun ys hne hok => o_clone ys hne hok)
  (Sound.wcons (by kernel_rfl) (fun xs i ys p zs h hp => by
    have h : insSp xs i ys = some (p, zs) := h
    unfold insSp at h
    split at h <;> cases h
    obtain ⟨h1, h2, h3, h4⟩ := hp
    obtain ⟨m, rfl⟩ := Int.eq_ofNat_of_zero_le h3
    exact w_insert xs m _ h1 h2 (by omega)) Sound.nil)))))
end Go.Proofs.Ytdjlickmjfpokaa
