/- The abstract machine inside a round of a range over a function: what a statement asks there. No program is in sight here. -/
import Derived.Test.YtkcelhhhbbpbpaaDoorAbs
import Derived.RangeFuncNested
import Derived.RangeFuncCalls
import Derived.OrdersIn
namespace Go.Abs
open Go Go.RowKit
set_option linter.unusedVariables false
set_option linter.unusedSimpArgs false
section
variable {P : Program} {l n : Nat}
/-- Where it goes on alone. -/
def onlyN (Q : Exit → Act → World → Prop) : Exit → Act → World → Prop
  | .normal, a, w => Q .normal a w
  | _, _, _ => False
theorem noLets (Q : Exit → Act → World → Prop) : ¬ LetsOut (onlyN Q) := fun ⟨_, _, h⟩ => h
def noDefer (o : Oper) : Bool := match o.op with | .defer _ => false | _ => true
theorem noDefer_ne {o : Oper} (h : noDefer o = true) : ∀ c, o.op ≠ .defer c := fun c e => by
  unfold noDefer at h; rw [e] at h; cases h
theorem rows_in {row : String} {args : Array Value} {w : World} {R : Value → World → Prop} (h : Rows P row args w R) : RowsIn (Fence.wide.inRound l) n P row args w R :=
  fun c cs _ => let ⟨v, w', r, s⟩ := h c cs; ⟨v, w', r, stepsIn_wide.2 s⟩
theorem oper_in {o : Oper} {a : Act} {w : World} {K K' : Act → World → Prop} {Q : Exit → Act → World → Prop} (hd : noDefer o = true) (hK : ∀ a w, K a w → K' a w) (h : o.wp P a w K (onlyN Q)) : o.wpIn (Fence.wide.inRound l) n P a w K' Q := by
  unfold Oper.wp at h
  refine ⟨fun f _ => trivial, ?_⟩
  rw [Oper.semAt_eq _ _ _ (noDefer_ne hd)]
  generalize (execOp a.eval o).run P w = r at *
  cases r with
  | ok v w' =>
    cases v with
    | value v => exact hK _ _ h
    | skip => exact hK _ _ h
    | defer d => exact hK _ _ h
    | enter f args =>
      refine ⟨fun e => (by cases e), CallsIn.inRound l (callsIn_wide.2 (h.mono fun e w'' he => ?_))⟩
      cases e with
      | returned v => exact hK _ _ he
      | panicked c => exact he.elim
      | outgrown => exact absurd he (noLets Q)
    | row row args => exact ⟨fun e => (by cases e), rows_in (h.mono fun v w'' he => hK _ _ he)⟩
    | round => exact h.elim
    | _ => exact h.elim
  | halt x w' =>
    cases x <;> exact h.elim
theorem ops_in {ops : Array Oper} {Q : Exit → Act → World → Prop} (hd : ∀ o ∈ ops.toList, noDefer o = true) : ∀ (is : List Nat) (a : Act) (w : World), wpOps P ops (onlyN Q) is a w → wpOpsIn (Fence.wide.inRound l) n P ops Q is a w
  | [], a, w, h => h
  | i :: rest, a, w, h => by
    unfold wpOps at h
    unfold wpOpsIn
    cases ho : ops[i]? with
    | none => rw [ho] at h; exact ops_in hd rest a w h
    | some o =>
      rw [ho] at h
      simp only at h ⊢
      have hm : o ∈ ops.toList := by
        have : ops.toList[i]? = some o := by simpa using ho
        exact List.mem_of_getElem? this
      split at h
      · rename_i hw
        rw [if_pos hw]
        rcases h with h | h
        · exact oper_in (hd o hm) (fun a w => ops_in hd rest a w) h
        · exact absurd h.2 (noLets Q)
      · rename_i hw
        rw [if_neg hw]
        exact ⟨fun f _ => trivial, ops_in hd rest _ w h⟩
theorem any_in {md : Region.Mode} {ops : Array Oper} {Q : Exit → Act → World → Prop} (hd : ∀ o ∈ ops.toList, noDefer o = true) : ∀ (fuel : Nat) (listed : Array Bool) (a : Act) (w : World), wpAny P md ops (onlyN Q) fuel listed a w → wpAnyIn (Fence.wide.inRound l) n P md ops Q fuel listed a w
  | 0, listed, a, w, h => h
  | fuel + 1, listed, a, w, h => by
    refine ⟨h.1, fun i hi => ?_⟩
    have h2 := h.2 i hi
    unfold wpOp at h2
    unfold wpOpIn
    cases ho : ops[i]? with
    | none => rw [ho] at h2; exact any_in hd fuel _ a w h2
    | some o =>
      rw [ho] at h2
      simp only at h2 ⊢
      have hm : o ∈ ops.toList := by
        have : ops.toList[i]? = some o := by simpa using ho
        exact List.mem_of_getElem? this
      split at h2
      · rename_i hw
        rw [if_pos hw]
        rcases h2 with h2 | h2
        · exact oper_in (hd o hm) (fun a w => any_in hd fuel _ a w) h2
        · exact absurd h2.2 (noLets Q)
      · rename_i hw
        rw [if_neg hw]
        exact ⟨fun f _ => trivial, any_in hd fuel _ _ w h2⟩
end

/-- A statement with no loop, no deferred call, no inner function over rounds. -/
def quietC : Code → Bool
  | .skip | .label _ | .ret | .exit _ => true
  | .region _ ops _ => ops.toList.all noDefer
  | .seq x y => quietC x && quietC y
  | .cond _ x y => quietC x && quietC y
  | .block _ c => quietC c
  | _ => false
section
variable {P : Program} {B : Nat} {w0 w : World} {ρ : Nat → Option Nat} {hp : List Blk}
theorem dregion_any {ds : List Deferred} {Φ : World → Prop} {Γ : List (FuncId × CSpec)} (hΓ : Sound P Φ Γ) (hΦ : ∀ w, Below B w0 w → B ≤ w.heap.size → Φ w) {ops : Array Oper} {K : AS → Prop} {Q : Exit → Act → World → Prop} {st : AS} {a : Act}
    (hB : Region.lexB .any ops = true) (hT : RT ρ st.tm a.tmps) (hd : a.defers = ds) (hR : Rel B w0 ρ (hpF st.hp) w) (h : dopsX P Γ ops ops.toList ops.toList [] st K)
    (hk : ∀ st' a' w' ρ', Ext ρ ρ' → RT ρ' st'.tm a'.tmps → a'.defers = ds → Rel B w0 ρ' (hpF st'.hp) w' → K st' → Q .normal a' w') : wpAny P .any ops Q ops.size (Array.replicate ops.size false) a { w with drawn := w.drawn + 1 } := by
  obtain ⟨L, l1, l2, l3⟩ := dopsX_run (B := B) (w0 := w0) hΓ hΦ ops.toList 0 [] st h
  simp only [Region.lexB, Bool.and_eq_true] at hB
  let α : Nat → AV := fun i => (L.getD i (.any, .val [])).1
  let kd : Nat → Kd := fun i => (L.getD i (.any, .val [])).2
  have hrun := l3 α kd fun i x hx => by simp [α, kd, List.getD, hx]
  have hlex := anyD_lex (md := .any) (ops := ops) (P := P) (B := B) (w0 := w0) (α := α) (kd := kd) (Fin := fun tm H => ∃ st' : AS, st'.tm = tm ∧ hpF st'.hp = H ∧ K st') (fun i j hij hj hw => by
      have hi' : i < L.length := by rw [l1]; simp; omega
      have hj' : j < L.length := by rw [l1]; simpa using hj
      have e : ∀ q, q < L.length → (L.map (·.2.fp))[q]? = some (kd q).fp := fun q hq => by
        simp [kd, List.getD, List.getElem?_eq_getElem hq]
      exact pairsB_spec (by simpa using l2) hij (e i hi') (e j hj') hw)
    ops.toList 0 (Array.replicate ops.size false) st.tm (hpF st.hp) (fun j => by simp) ⟨by simp, fun j oj hj hl => by rw [getD_rep] at hl; cases hl⟩ (fun j hj => by omega) (by simpa using hB.2) hrun
  have := anyD_sound (md := .any) (Q := Q) (ρ0 := ρ) (fun tm H ρ' a' w' hf h1 h2 h3 h4 => by
    obtain ⟨st', rfl, rfl, hK⟩ := hf
    exact hk st' a' w' ρ' h4 h1 h2 h3 hK) _ _ _ _ ρ a { w with drawn := w.drawn + 1 } (Ext.refl ρ) hT hd (hR.drawn _) hlex
  simpa using this
end
section
variable {P : Program} {B : Nat} {w0 w : World} {ρ : Nat → Option Nat} {hp : List Blk} {l n : Nat}
theorem codeX_soundIn {ds : List Deferred} {Φ : World → Prop} {Γ : List (FuncId × CSpec)} {inl : Inl} (hΓ : Sound P Φ Γ) (hΦ : ∀ w, Below B w0 w → B ≤ w.heap.size → Φ w) (hi : InlSound P B w0 inl) {A : List (Nat × LoopBy)} :
    ∀ (c : Code) (cur : Nat) {st : AS} {K : X → AS → Prop} {a : Act} {w : World} {ρ : Nat → Option Nat} {Q : Exit → Act → World → Prop},
      RT ρ st.tm a.tmps → a.defers = ds → Rel B w0 ρ (hpF st.hp) w → codeX P Γ inl A cur c st K → Post B w0 ρ K Q ds → quietC c = true → c.wpIn (Fence.wide.inRound l) n P Q a w := by
  intro c
  induction c with
  | skip => intro cur st K a w ρ Q hT hd hR h hk hq; exact wpIn_skip (hk .normal st a w ρ (Ext.refl ρ) hT hd hR h)
  | label l => intro cur st K a w ρ Q hT hd hR h hk hq; exact wpIn_label (hk .normal st a w ρ (Ext.refl ρ) hT hd hR h)
  | ret => intro cur st K a w ρ Q hT hd hR h hk hq; exact wpIn_ret (hk .ret st a w ρ (Ext.refl ρ) hT hd hR h)
  | exit id => intro cur st K a w ρ Q hT hd hR h hk hq; exact wpIn_exit (hk (.exit id) st a w ρ (Ext.refl ρ) hT hd hR h)
  | region id ops draw =>
    intro cur st K a w ρ Q hT hd hR h hk hq
    cases draw with
    | false =>
      simp only [codeX, cond_false] at h
      refine wpIn_region (ops_in (List.all_eq_true.1 hq) _ _ _ ?_)
      have := opsX_sound (Q := onlyN Q) hΓ hΦ hi ops.toList 0 (fun j => by simp) hT hd hR h (fun st' a' w' ρ' h1 h2 h3 h4 h5 => hk .normal st' a' w' ρ' h1 h2 h3 h4 h5)
      simpa [List.range_eq_range'] using this
    | true =>
      simp only [codeX, cond_true] at h
      cases hb : (P.follows .mixedOrders && Region.lexB .any ops) with
      | false => simp [hb] at h
      | true =>
        simp only [hb, cond_true] at h
        simp only [Bool.and_eq_true] at hb
        exact wpIn_region_any hb.1 (any_in (List.all_eq_true.1 hq) _ _ _ _ (dregion_any (Q := onlyN Q) hΓ hΦ hb.2 hT hd hR h fun st' a' w' ρ' h1 h2 h3 h4 h5 => hk .normal st' a' w' ρ' h1 h2 h3 h4 h5))
  | seq x y ihx ihy =>
    intro cur st K a w ρ Q hT hd hR h hk hq
    simp only [codeX] at h
    simp only [quietC, Bool.and_eq_true] at hq
    refine wpIn_seq (ihx cur hT hd hR h ?_ hq.1)
    intro e st' a' w' ρ' h1 h2 h3 h4 h5
    cases e with
    | normal => exact ihy cur h2 h3 h4 h5 (fun e2 s2 a2 w2 ρ2 k1 k2 k3 k4 k5 => hk e2 s2 a2 w2 ρ2 (h1.trans k1) k2 k3 k4 k5) hq.2
    | exit id => exact hk (.exit id) st' a' w' ρ' h1 h2 h3 h4 h5
    | ret => exact hk .ret st' a' w' ρ' h1 h2 h3 h4 h5
  | cond c x y ihx ihy =>
    intro cur st K a w ρ Q hT hd hR h hk hq
    simp only [codeX] at h
    simp only [quietC, Bool.and_eq_true] at hq
    have hc := ev_R hT c
    split at h
    · rename_i b hb
      rw [hb] at hc
      have hc : a.eval c = .bool b := hc
      split at h
      · rename_i t _
        have hkn := hT.known (d := t) hb
        cases b with
        | true => exact wpIn_cond_true hc (ihx cur (st := ⟨lset st.tm t (.v (.bool true)), st.hp⟩) hkn hd hR h hk hq.1)
        | false => exact wpIn_cond_false hc (ihy cur (st := ⟨lset st.tm t (.v (.bool false)), st.hp⟩) hkn hd hR h hk hq.2)
      · cases b with
        | true => exact wpIn_cond_true hc (ihx cur hT hd hR h hk hq.1)
        | false => exact wpIn_cond_false hc (ihy cur hT hd hR h hk hq.2)
    · exact h.elim
  | block id c ih =>
    intro cur st K a w ρ Q hT hd hR h hk hq
    simp only [codeX] at h
    have main : ∀ {K' : X → AS → Prop}, codeX P Γ inl A id c st (blockX id K') → Post B w0 ρ K' Q ds → (Code.block id c).wpIn (Fence.wide.inRound l) n P Q a w := by
      intro K' h hk
      refine wpIn_block (ih id hT hd hR h ?_ hq)
      intro e st' a' w' ρ' h1 h2 h3 h4 h5
      cases e with
      | normal => exact hk .normal st' a' w' ρ' h1 h2 h3 h4 h5
      | ret => exact hk .ret st' a' w' ρ' h1 h2 h3 h4 h5
      | exit i =>
        simp only [blockX] at h5
        show (if i = id then Q .normal a' w' else Q (.exit i) a' w')
        by_cases hid : i = id
        · subst hid
          simp only [Nat.beq_refl, cond_true] at h5
          rw [if_pos rfl]
          exact hk .normal st' a' w' ρ' h1 h2 h3 h4 h5
        · have : Nat.beq i id = false := by
            cases e : Nat.beq i id with
            | false => rfl
            | true => exact absurd (Nat.eq_of_beq_eq_true e) hid
          simp only [this, cond_false] at h5
          rw [if_neg hid]
          exact hk (.exit i) st' a' w' ρ' h1 h2 h3 h4 h5
    split at h
    · rename_i j _
      obtain ⟨hj, hc⟩ := h
      have hj := fun s q => bif_iff.1 (hj s q)
      refine main hc ?_
      intro e st' a' w' ρ' h1 h2 h3 h4 h5
      cases e with
      | normal =>
        obtain ⟨s, q1, q2⟩ := h5
        obtain ⟨ρ2, e1, e2, e3⟩ := stLeR_rel (hp0 := st.hp) (fun k q => hR.dom k (List.getElem?_eq_none q)) h1 h2 h4 q1 (hj s q2).1
        exact hk .normal _ a' w' ρ2 e1 e2 h3 e3 (hj s q2).2
      | exit i => exact hk (.exit i) st' a' w' ρ' h1 h2 h3 h4 h5
      | ret => exact hk .ret st' a' w' ρ' h1 h2 h3 h4 h5
    · exact main h hk
  | _ => intros; rename_i hq; cases hq
end
end Go.Abs
