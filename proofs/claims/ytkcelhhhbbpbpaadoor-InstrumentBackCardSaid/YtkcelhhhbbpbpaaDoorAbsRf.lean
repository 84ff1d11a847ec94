/- The abstract machine, and a range over a function whose iterator writes one box. No program is in sight here. -/
import Derived.Test.YtkcelhhhbbpbpaaDoorAbsIn
import Derived.Test.YtkcelhhhbbpbpaaDoorRf
namespace Go.Abs
open Go Go.RowKit Go.Rf
set_option linter.unusedVariables false
set_option linter.unusedSimpArgs false
section
variable {P : Program} {B : Nat} {w0 w : World} {ρ : Nat → Option Nat} {H : Nat → Option Blk}
theorem Rel.rebase (h : Rel B w0 ρ H w) : Rel B w ρ H w := ⟨Below.refl _ _, h.base, h.dom, h.inj, h.blk, h.lies, KeepsOthers.refl _⟩
theorem Rel.root {w' : World} (h : Rel w0.heap.size w ρ H w') (hb : Below w0.heap.size w0 w) : Rel w0.heap.size w0 ρ H w' :=
  ⟨hb.trans h.below, h.base, h.dom, h.inj, h.blk, h.lies, keeps_below (hb.trans h.below)⟩
theorem Rel.grownO (h : Rel w0.heap.size w0 ρ H w) {w' : World} {m : Option Nat} (hg : w.grownBy w' m) (hm : ∀ r, m = some r → w0.heap.size ≤ r ∧ ∃ o : Obj, w.heap[r]? = some o ∧ o.isCells = false) : Rel w0.heap.size w0 ρ H w' := by
  have hb := h.below.grown hg h.base (fun k e => (hm k e).1)
  refine ⟨hb, Nat.le_trans h.base hg.size, h.dom, h.inj, fun i n x hi hx hl => ?_, h.lies, keeps_below hb⟩
  obtain ⟨h0, cs, ⟨T', fz, h1, h3⟩, h2⟩ := h.blk i n x hi hx hl
  refine ⟨h0, cs, ⟨T', fz, ?_, h3⟩, h2⟩
  rw [hg.block n (h.lt hi hx hl) (fun e => by
    obtain ⟨_, o, ho, hc⟩ := hm n e.symm
    rw [h1] at ho
    cases ho
    cases hc)]
  exact h1
theorem Rel.box (h : Rel B w0 ρ H w) {k c0 : Nat} {T : TypeId} {u : Value} (hk : ρ k = some c0) (hb : H k = some ⟨T, [.v u], some true, none⟩) : w.cell? ⟨c0, 0, none⟩ = some u ∧ w.frozen? ⟨c0, 0, none⟩ = false := by
  have hl : (Blk.mk T [.v u] (some true) none).live := Blk.live_of rfl rfl
  obtain ⟨v, h1, h2⟩ := h.cell hk hb hl rfl (o := 0) (by show 0 < 1; decide)
  have h2 : v = u := h2
  subst h2
  exact ⟨h1, h.frozen hk hb hl rfl⟩
theorem Rel.setBox {hp : List Blk} (h : Rel B w0 ρ (hpF hp) w) {k c0 : Nat} {T : TypeId} {u : Value} (hk : ρ k = some c0) (hb : hp[k]? = some ⟨T, [.v u], some true, none⟩) (v : Value) : Rel B w0 ρ (hpF (bset hp k ⟨T, [.v v], some true, none⟩)) (w.setCell ⟨c0, 0, none⟩ v) := by
  rw [hpF_bset hp hb]
  exact h.put hk hb rfl rfl (by show 0 < 1; decide) (a := .v v) rfl
end
/-- What is asked behind a round. -/
def bodyK {σ τ : Type} (m : Nat) (tmN : List AV) (hpI : σ → List Blk) (hpX : τ → List Blk) (NI : σ → Prop) (NX : τ → Prop) : X → AS → Prop := fun e st => match e with
  | .normal => ∃ s, stLeR m st ⟨tmN, hpI s⟩ ∧ NI s
  | .ret => ∃ t, stLeR m st ⟨tmN, hpX t⟩ ∧ NX t
  | .exit _ => False
/-- Nothing is walked in place. -/
def noInl : Inl := fun _ _ _ _ => False
theorem noInl_sound {P : Program} {B : Nat} {w0 : World} : InlSound P B w0 noInl := fun _ _ _ _ _ _ _ h => h.elim
section
variable {α σ : Type} {ρ6 : Nat → Option Nat} {w0 : World}
/-- What holds between two rounds. -/
def RfI (w0 : World) (ρ6 : Nat → Option Nat) (hp : σ → ByteArray → List Blk) (SI : List α → σ → Prop) (pre : List α) (W : World) : Prop :=
  ∃ s u ρ, SI pre s ∧ Ext ρ6 ρ ∧ Rel w0.heap.size w0 ρ (hpF (hp s u)) W
theorem RfI.own {hp : σ → ByteArray → List Blk} {SI : List α → σ → Prop} {b : Nat} (hb : w0.heap.size ≤ b) : OwnFrom b (RfI w0 ρ6 hp SI) := by
  rintro pre W W' row ⟨s, u, ρ, h1, h2, h3⟩ hg hr
  exact ⟨s, u, ρ, h1, h2, h3.grownO hg fun r e => ⟨Nat.le_trans hb (hr r e).1, (hr r e).2⟩⟩
theorem RfI.cell {hp : σ → ByteArray → List Blk} {SI : List α → σ → Prop} {kb c0 : Nat} {T : TypeId} (hkb : ρ6 kb = some c0) (hbx : ∀ s u, (hp s u)[kb]? = some ⟨T, [.v (.string u)], some true, none⟩) (hst : ∀ s u v, bset (hp s u) kb ⟨T, [.v (.string v)], some true, none⟩ = hp s v) : AbidesCell c0 (RfI w0 ρ6 hp SI) := by
  rintro pre W v ⟨s, u, ρ, h1, h2, h3⟩
  refine ⟨s, v, ρ, h1, h2, ?_⟩
  have := h3.setBox (h2 _ _ hkb) (hbx s u) (.string v)
  rwa [hst] at this
end
section
variable {P : Program}
theorem rf_go {α σ τ : Type} {Φ : World → Prop} (hst : ∀ w w', Φ w → Below w.heap.size w w' → Φ w') {Γ : List (FuncId × CSpec)} (hΓ : Sound P Φ Γ) {n : Nat} (hn : 1 ≤ n) {g : Operand} {ps : Array Tmp} {assign body : Code}
    {a : Act} {w0 W : World} (hΦ : Φ w0) {m : Nat} {ρ6 : Nat → Option Nat} (hdom6 : ∀ k, m ≤ k → ρ6 k = none)
    {gf : Nat} {lb : Array Value} (hg : a.eval g = .func (.func gf) #[] lb) (eg : ∀ args w, (callFunc gf args).run P w = .ok (.enter gf args) w)
    {encs : α → Array Value} (hps : ∀ x, (encs x).size = ps.size) {c0 kb : Nat} {T : TypeId} (hkb : ρ6 kb = some c0) {Kp : World → World → Prop} {S Sp : List α → Prop} {N : Nat} (hseq : SeqStopsC Fence.wide (n - 1) P gf lb encs c0 Kp S Sp N W)
    (hKt : ∀ {A B C : World}, Kp A B → Kp B C → Kp A C) (hKb : ∀ (W1 : World) (l : Nat) (o o' : Obj), W.heap.size ≤ l → W1.heap[l]? = some o → o.isCells = false → o.isWalk = false → Kp W1 (W1.putObj l o'))
    (hKp : ∀ {A A' : World} {u : Value}, A.cell? ⟨c0, 0, none⟩ = some u ∧ A.frozen? ⟨c0, 0, none⟩ = false → A'.cell? ⟨c0, 0, none⟩ = some u ∧ A'.frozen? ⟨c0, 0, none⟩ = false → Kp A A')
    {hpI : σ → ByteArray → List Blk} {hpX : τ → ByteArray → List Blk} (boxI : ∀ s u, (hpI s u)[kb]? = some ⟨T, [.v (.string u)], some true, none⟩) (setI : ∀ s u v, bset (hpI s u) kb ⟨T, [.v (.string v)], some true, none⟩ = hpI s v)
    (boxX : ∀ s u, (hpX s u)[kb]? = some ⟨T, [.v (.string u)], some true, none⟩) (setX : ∀ s u v, bset (hpX s u) kb ⟨T, [.v (.string v)], some true, none⟩ = hpX s v)
    (SI : List α → σ → Prop) (SX : List α → τ → Prop) {s0 : σ} {u0 : ByteArray} {ρ0 : Nat → Option Nat} (hs0 : SI [] s0) (hE0 : Ext ρ6 ρ0) (hR0 : Rel w0.heap.size w0 ρ0 (hpF (hpI s0 u0)) W)
    (a₁ : α → Act) (tmB : α → List AV) (hTB : ∀ x, RT ρ6 (tmB x) (a₁ x).tmps) (hdB : ∀ x, (a₁ x).defers = [])
    (hassign : ∀ (l : Nat) (x : α) (W : World) (K : Act → World → Prop), K (a₁ x) W →
      assign.wpIn (Fence.wide.inRound l) (n - 1 - 1) P (Exit.then K (fun _ _ _ => False)) { tmps := (ps.zip (encs x)).foldl (fun t (p, v) => t.setIfInBounds p v) a.tmps, defers := [] } W)
    (hq : quietC body = true) (tmN : List AV) (hmI : ∀ s u, Nat.ble m (hpI s u).length = true) (hmX : ∀ s u, Nat.ble m (hpX s u).length = true)
    (hbody : ∀ pre x s u, SI pre s → pre.length < N → Sp (pre ++ [x]) → codeX P Γ noInl [] 0 body ⟨tmB x, hpI s u⟩ (bodyK m tmN (fun s => hpI s u) (fun t => hpX t u) (SI (pre ++ [x])) (SX (pre ++ [x]))))
    {Q : Exit → Act → World → Prop}
    (hdone : ∀ D xs s u ρ W1, S xs → SI xs s → Ext ρ6 ρ → Rel w0.heap.size w0 ρ (hpF (hpI s u)) W1 → w0.heap.size ≤ D → W1.heap[D]? = some (.deferred (some [])) → Q .normal { a with defers := { target := .collected D, args := #[] } :: a.defers } W1)
    (hstop : ∀ D pre t u ρ W1, Sp pre → SX pre t → Ext ρ6 ρ → Rel w0.heap.size w0 ρ (hpF (hpX t u)) W1 → w0.heap.size ≤ D → W1.heap[D]? = some (.deferred (some [])) → Q .ret { a with defers := { target := .collected D, args := #[] } :: a.defers } W1) :
    (Code.rangeFunc g ps assign body).wpIn Fence.wide n P Q a W := by
  have hbW : w0.heap.size ≤ W.heap.size := hR0.base
  refine wpIn_rangeFunc_cell (gf := gf) (lb := lb) rfl hn hg trivial eg (hR0.lt (hE0 _ _ hkb) (boxI s0 u0) (Blk.live_of rfl rfl)) hseq hKt hKb (Below.refl _ _) hps
    (RfI w0 ρ6 hpI SI) (fun c pre W1 => c = .ret ∧ RfI w0 ρ6 hpX SX pre W1) (RfI.own hbW) (fun c => ?_) (RfI.cell hkb boxI setI) (fun c => ?_) ⟨s0, u0, ρ0, hs0, hE0, hR0⟩ a₁ hassign ?_ ?_ ?_
  · rintro pre W1 W2 row ⟨h1, h2⟩ hg' hr
    exact ⟨h1, RfI.own hbW _ _ _ _ h2 hg' hr⟩
  · rintro pre W1 v ⟨h1, h2⟩
    exact ⟨h1, RfI.cell hkb boxX setX _ _ _ h2⟩
  · -- A ROUND
    rintro l pre x W1 ⟨s, u, ρ, hs, hE, hR⟩ hlt hsp
    have hlen : (List.replicate m deadB).length = m := by simp
    have hx := hbody pre x s u hs hlt hsp
    refine codeX_soundIn (ds := []) (B := w0.heap.size) (w0 := W1) hΓ (fun w' hb1 _ => hst _ _ hΦ (hR.below.trans hb1)) noInl_sound body 0 (st := ⟨tmB x, hpI s u⟩) ((hTB x).mono hE) (hdB x) hR.rebase hx ?_ hq
    · intro e st' a' w' ρ' h1 h2 h3 h4 h5
      have key : ∀ {hp' : List Blk}, stLeR m st' ⟨tmN, hp'⟩ → Nat.ble m hp'.length = true → ∃ ρ3, Ext ρ6 ρ3 ∧ Rel w0.heap.size W1 ρ3 (hpF hp') w' := fun {hp'} q1 q2 => by
        obtain ⟨ρ3, k1, _, k3⟩ := stLeR_rel (hp0 := List.replicate m deadB) (ρ0 := ρ6) (t := ⟨tmN, hp'⟩) (by rw [hlen]; exact hdom6) (hE.trans h1) h2 h4 (by rw [hlen]; exact q1) (by rw [hlen]; exact q2)
        exact ⟨ρ3, k1, k3⟩
      cases e with
      | normal =>
        obtain ⟨s', g2, g1⟩ := h5
        obtain ⟨ρ3, k1, k3⟩ := key g2 (hmI s' u)
        exact ⟨k3.keeps, hKp (hR.box (hE _ _ hkb) (boxI s u)) (k3.box (k1 _ _ hkb) (boxI s' u)), s', u, ρ3, g1, k1, k3.root hR.below⟩
      | ret =>
        obtain ⟨t, g2, g1⟩ := h5
        obtain ⟨ρ3, k1, k3⟩ := key g2 (hmX t u)
        exact ⟨k3.keeps, rfl, t, u, ρ3, g1, k1, k3.root hR.below⟩
      | exit id => exact h5.elim
  · rintro D xs W1 hD hS ⟨s, u, ρ, hs, hE, hR⟩ hK
    exact hdone D xs s u ρ W1 hS hs hE hR (Nat.le_trans hbW hD) hK
  · rintro D c pre W1 hD hS ⟨rfl, t, u, ρ, hs, hE, hR⟩ hK
    exact wpIn_ret (hstop D pre t u ρ W1 hS hs hE hR (Nat.le_trans hbW hD) hK)
theorem pre_last {Φ : World → Prop} (hst : ∀ w w', Φ w → Below w.heap.size w w' → Φ w') {Γ : List (FuncId × CSpec)} (hΓ : Sound P Φ Γ) {inl : Inl} {w0 W : World} (hi : InlSound P w0.heap.size w0 inl) (hΦ : Φ w0) {A : List (Nat × LoopBy)} {cur n : Nat} {x : Code} {st : AS} {K : X → AS → Prop} {a : Act} {ρ : Nat → Option Nat} {next : Act → World → Prop} {Q : Exit → Act → World → Prop}
    (hT : RT ρ st.tm a.tmps) (hd : a.defers = []) (hR : Rel w0.heap.size w0 ρ (hpF st.hp) W) (h : codeX P Γ inl A cur x st K) (hK : ∀ e st, e ≠ .normal → ¬ K e st)
    (hn : ∀ st' a' w' ρ', RT ρ' st'.tm a'.tmps → a'.defers = [] → Rel w0.heap.size w0 ρ' (hpF st'.hp) w' → K .normal st' → next a' w') : x.wpIn Fence.wide n P (Exit.then next Q) a W := by
  refine wpIn_wide.2 (codeX_sound (ds := []) hΓ (fun w' hb1 _ => hst _ _ hΦ hb1) hi x cur hT hd hR h ?_)
  intro e st' a' w' ρ' h1 h2 h3 h4 h5
  cases e with
  | normal => exact hn st' a' w' ρ' h2 h3 h4 h5
  | ret => exact (hK .ret st' (by simp) h5).elim
  | exit id => exact (hK (.exit id) st' (by simp) h5).elim
theorem pre_seq {Φ : World → Prop} (hst : ∀ w w', Φ w → Below w.heap.size w w' → Φ w') {Γ : List (FuncId × CSpec)} (hΓ : Sound P Φ Γ) {inl : Inl} {w0 W : World} (hi : InlSound P w0.heap.size w0 inl) (hΦ : Φ w0) {A : List (Nat × LoopBy)} {cur n : Nat} {x y : Code} {st : AS} {K : X → AS → Prop} {a : Act} {ρ : Nat → Option Nat} {next : Act → World → Prop} {Q : Exit → Act → World → Prop}
    (hT : RT ρ st.tm a.tmps) (hd : a.defers = []) (hR : Rel w0.heap.size w0 ρ (hpF st.hp) W) (h : codeX P Γ inl A cur (.seq x y) st K) (hK : ∀ e st, e ≠ .normal → ¬ K e st)
    (hn : ∀ st' a' w' ρ', RT ρ' st'.tm a'.tmps → a'.defers = [] → Rel w0.heap.size w0 ρ' (hpF st'.hp) w' → codeX P Γ inl A cur y st' K → next a' w') : x.wpIn Fence.wide n P (Exit.then next Q) a W := by
  refine pre_last hst hΓ hi hΦ hT hd hR (K := thenX K fun st' => codeX P Γ inl A cur y st' K) h (fun e st q => ?_) hn
  cases e with
  | normal => exact absurd rfl q
  | ret => exact hK _ _ q
  | exit id => exact hK _ _ q
/-- How such a function ends. -/
def endK (P : Program) (fn : Func) (KR : AV → List Blk → Prop) : X → AS → Prop := fun e st => match e with
  | .exit _ => False
  | _ => match resX P st fn.results.toList with
    | some l => match oneX l with | some a => KR a st.hp | none => False
    | none => False
def endR (w0 : World) (KR : AV → List Blk → Prop) : Ending → World → Prop := fun e w' => ∃ ρ' hp' av v, e = .returned v ∧ Rel w0.heap.size w0 ρ' (hpF hp') w' ∧ AV.R ρ' av v ∧ KR av hp'
theorem rf_end {fn : Func} {KR : AV → List Blk → Prop} {w0 W1 : World} {ρ : Nat → Option Nat} {st : AS} {a : Act} {D n : Nat} (hR : Rel w0.heap.size w0 ρ (hpF st.hp) W1) (hT : RT ρ st.tm a.tmps) (hd : a.defers = [{ target := .collected D, args := #[] }]) (hD : w0.heap.size ≤ D)
    (hK : W1.heap[D]? = some (.deferred (some []))) (h : endK P fn KR .ret st) : LeavesInM Fence.wide n P fn a.tmps (endR w0 KR) a.defers .returning W1 := by
  rw [hd]
  refine ⟨by simp, .inl ⟨D, _, rfl, run_takeDeferred hK, ?_⟩⟩
  have hR2 : Rel w0.heap.size w0 ρ (hpF st.hp) (W1.putObj D (.deferred none)) := hR.grownO (grownBy_putObj' _ _ _) (fun r e => by cases e; exact ⟨hD, _, hK, rfl⟩)
  unfold endK at h
  simp only at h
  cases hr : resX P st fn.results.toList with
  | none => rw [hr] at h; exact h.elim
  | some l =>
    cases ho : oneX l with
    | none => rw [hr] at h; simp only [ho] at h
    | some av =>
      rw [hr] at h
      simp only [ho] at h
      obtain ⟨v, hv, hvr⟩ := results_run hR2 rfl hT hr ho
      exact ⟨v, hv, ρ, st.hp, av, v, rfl, hR2, hvr, h⟩
theorem rf_c2 {Φ : World → Prop} (hst : ∀ w w', Φ w → Below w.heap.size w w' → Φ w') {Γ : List (FuncId × CSpec)} (hΓ : Sound P Φ Γ) {fn : Func} {KR : AV → List Blk → Prop} {w0 W1 : World} (hΦ : Φ w0) {ρ : Nat → Option Nat} {st : AS} {a : Act} {D n cur : Nat} {c2 : Code}
    (hR : Rel w0.heap.size w0 ρ (hpF st.hp) W1) (hT : RT ρ st.tm a.tmps) (hd : a.defers = [{ target := .collected D, args := #[] }]) (hD : w0.heap.size ≤ D)
    (hK : W1.heap[D]? = some (.deferred (some []))) (h : codeX P Γ noInl [] cur c2 st (endK P fn KR)) : c2.wpIn Fence.wide n P (bodyPostM Fence.wide n P fn (endR w0 KR)) a W1 := by
  refine wpIn_wide.2 (codeX_sound (ds := [{ target := .collected D, args := #[] }]) (B := w0.heap.size) (w0 := W1) hΓ (fun w' hb1 _ => hst _ _ hΦ (hR.below.trans hb1)) noInl_sound c2 cur hT hd hR.rebase h ?_)
  intro e st' a' w' ρ' h1 h2 h3 h4 h5
  have hK' : w'.heap[D]? = some (.deferred (some [])) := h4.keeps.same _ _ hK rfl
  have hR' := h4.root hR.below
  cases e with
  | normal => exact rf_end hR' h2 h3 hD hK' h5
  | ret => exact rf_end hR' h2 h3 hD hK' h5
  | exit id => exact h5.elim
end
end Go.Abs
