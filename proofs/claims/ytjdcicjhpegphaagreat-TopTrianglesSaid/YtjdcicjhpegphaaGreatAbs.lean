/- A small machine on abstract values, second part: it is sound. No program is in sight here. -/
import Derived.Test.YtjdcicjhpegphaaGreatAbsA
set_option linter.unusedSimpArgs false
set_option linter.unusedVariables false
namespace Go.Abs
open Go Go.RowKit
section
variable {P : Program} {B : Nat} {w0 w : World} {ρ : Nat → Option Nat} {hp : List Blk}
theorem opX_sound {Φ : World → Prop} {Γ : List (FuncId × CSpec)} {inl : Inl} {rows : Bool} (hΓ : Sound P Φ Γ) (hΦ : ∀ w, Below B w0 w → B ≤ w.heap.size → Φ w) (hi : InlSound P B w0 inl)
    {o : Oper} {st : AS} {a : Act} {K : AV → List Blk → Prop} {next : Act → World → Prop} {Q : Exit → Act → World → Prop}
    (hT : RT ρ st.tm a.tmps) (hR : Rel B w0 ρ (hpF st.hp) w) (h : opX P Γ inl rows o st K)
    (hk : ∀ av hp' w' ρ' v, Ext ρ ρ' → Rel B w0 ρ' (hpF hp') w' → av.R ρ' v → K av hp' → next (a.put o.dst v) w') : o.wp P a w next Q := by
  have hpre := Ext.refl ρ
  unfold opX at h
  cases ho : o.op with
  | move x =>
    simp only [ho] at h
    exact upon_value' (v := a.eval x) (by simp only [execOp, ho]; rfl) (hk _ _ w ρ _ hpre hR (ev_R hT x) h)
  | assign x =>
    simp only [ho] at h
    exact upon_value' (v := a.eval x) (by simp only [execOp, ho]; rfl) (hk _ _ w ρ _ hpre hR (ev_R hT x) h)
  | pick c x y =>
    simp only [ho] at h
    have hc := ev_R hT c
    split at h
    · rename_i t ht
      rw [ht] at hc
      have hc : a.eval c = .bool t := hc
      have hrun : (execOp a.eval o).run P w = .ok (.value (if t then a.eval x else a.eval y)) w := by
        simp only [execOp, ho, hc]
        cases t <;> rfl
      refine upon_value' hrun ?_
      cases t with
      | true => exact hk _ _ w ρ _ hpre hR (ev_R hT x) h
      | false => exact hk _ _ w ρ _ hpre hR (ev_R hT y) h
    · exact h.elim
  | alloc T =>
    simp only [ho] at h
    cases hi' : P.info? T with
    | none => simp [hi'] at h
    | some i =>
      cases hz : i.zero with
      | none => simp [hi', hz] at h
      | some z =>
        simp only [hi', hz] at h
        have hrun : (execOp a.eval o).run P w = .ok (.value (.pointer (some ⟨w.heap.size, 0, none⟩))) (w.alloc (.cells z.cells T (0, 0))) := by
          simp only [execOp, ho, Instr.alloc, zeroValue, Sem.run_bind, run_typeInfo w hi', Result.andThen_ok, hz]
          rfl
        refine upon_value' hrun (hk _ _ _ _ _ (Ext.new (hR.dom _ (hpF_none _)) _) (by rw [hpF_new]; exact hR.new (hpF_none _) (by simp) (fun q hq => by rw [lget_map _ _ (by simpa using hq)]; show _ = _; simp [List.getD, Array.getD_eq_getD_getElem?])) (R_p 0 (by simp [rnew])) h)
  | box T x =>
    simp only [ho] at h
    cases hc : cellsOf (ev st.tm x) with
    | none => simp [hc] at h
    | some l =>
      simp only [hc] at h
      obtain ⟨h1, h2⟩ := cellsOf_R hc (ev_R hT x)
      have hrun : (execOp a.eval o).run P w = .ok (.value (.pointer (some ⟨w.heap.size, 0, none⟩))) (w.alloc (.cells (a.eval x).cells T (0, 0))) := by
        simp only [execOp, ho, Instr.box]
        rfl
      refine upon_value' hrun (hk _ _ _ _ _ (Ext.new (hR.dom _ (hpF_none _)) _) (by rw [hpF_new]; exact hR.new (hpF_none _) h1 h2) (R_p 0 (by simp [rnew])) h)
  | load t x =>
    simp only [ho] at h
    have hx := ev_R hT x
    split at h
    · rename_i k i hki
      rw [hki] at hx
      obtain ⟨n, hn, hx⟩ := hx
      split at h
      · rename_i av hl
        obtain ⟨v, hv, hr⟩ := loadX_run hR hn hl
        refine upon_value' (v := v) ?_ (hk _ _ w ρ _ hpre hR hr h)
        simp only [execOp, ho, hx, Instr.loadAt, Sem.run_bind, run_sure, Result.andThen_ok, hv]
        rfl
      · exact h.elim
    · rename_i k j z f hki
      rw [hki] at hx
      obtain ⟨n, hn, hx⟩ := hx
      split at h
      · rename_i b hb
        obtain ⟨av, h, hl⟩ := loadE_run (B := B) (w0 := w0) h
        obtain ⟨v, hv, hr⟩ := hl hR hn hb
        refine upon_value' (v := v) ?_ (hk _ _ w ρ _ hpre hR hr h)
        simp only [execOp, ho, hx, Instr.loadAt, Sem.run_bind, run_sure, Result.andThen_ok, hv]
        rfl
      · exact h.elim
    · rename_i k j z f hki
      rw [hki] at hx
      obtain ⟨n, off, hn, hoff, hx⟩ := hx
      split at h
      · rename_i b hb
        obtain ⟨av, h, hl⟩ := loadF_run (B := B) (w0 := w0) h
        obtain ⟨v, hv, hr⟩ := hl hR hn hoff hb
        refine upon_value' (v := v) ?_ (hk _ _ w ρ _ hpre hR hr h)
        simp only [execOp, ho, hx, Instr.loadAt, Sem.run_bind, run_sure, Result.andThen_ok, hv]
        rfl
      · exact h.elim
    · exact h.elim
  | store t x y =>
    simp only [ho] at h
    have hx := ev_R hT x
    split at h
    · rename_i k i hki
      rw [hki] at hx
      obtain ⟨n, hn, hx⟩ := hx
      split at h
      · rename_i hp' hl
        obtain ⟨w', hw', hr⟩ := storeX_run hR hn (ev_R hT y) hl
        unfold Oper.wp
        have hrun : (execOp a.eval o).run P w = .ok .skip w' := by
          simp only [execOp, ho, hx, Instr.storeAt, Sem.run_bind, run_sure, Result.andThen_ok, hw']
          rfl
        rw [hrun]
        exact hk _ _ _ _ _ hpre hr (R_v undef) h
      · exact h.elim
    · rename_i k j z f hki
      rw [hki] at hx
      obtain ⟨n, hn, hx⟩ := hx
      split at h
      · rename_i b hb
        obtain ⟨b', h, hl⟩ := storeE_run (B := B) (w0 := w0) h
        obtain ⟨w', hw', hr⟩ := hl hR hn hb (ev_R hT y)
        unfold Oper.wp
        have hrun : (execOp a.eval o).run P w = .ok .skip w' := by
          simp only [execOp, ho, hx, Instr.storeAt, Sem.run_bind, run_sure, Result.andThen_ok, hw']
          rfl
        rw [hrun]
        exact hk _ _ _ _ _ hpre (by rw [hpF_bset _ hb]; exact hr) (R_v undef) h
      · exact h.elim
    · exact h.elim
  | fieldAddr s x f =>
    simp only [ho] at h
    have hx := ev_R hT x
    split at h
    · rename_i k i hki
      rw [hki] at hx
      obtain ⟨n, hn, hx⟩ := hx
      split at h
      · rename_i d hd
        unfold fieldX at hd
        split at hd
        · rename_i fields hu
          split at hd
          · rename_i fd hf
            split at hd
            · rename_i inf hinf
              cases hb : Nat.beq inf.size 0 with
              | true => simp [hb] at hd
              | false =>
                simp only [hb, cond_false, Option.some.injEq] at hd
                subst hd
                have hne : inf.size ≠ 0 := fun e => by rw [e] at hb; cases hb
                refine upon_value' (v := .pointer (some ⟨n, i + fd.offset, none⟩)) ?_ (hk _ _ w ρ _ hpre hR (R_p _ hn) h)
                simp only [execOp, ho, hx, Instr.fieldAt, Sem.run_bind, run_underlying hu, Result.andThen_ok, hf, run_sure, fieldPlace, sizeOf, run_typeInfo w hinf]
                simp only [pure, Sem.run, Result.andThen_ok, hne, if_false, addr_add]
            · cases hd
          · cases hd
        · cases hd
      · exact h.elim
    · rename_i k j z i hki
      rw [hki] at hx
      obtain ⟨n, hn, hx⟩ := hx
      split at h
      · rename_i d hd
        unfold fieldX at hd
        split at hd
        · rename_i fields hu
          split at hd
          · rename_i fd hf
            split at hd
            · rename_i inf hinf
              cases hb : Nat.beq inf.size 0 with
              | true => simp [hb] at hd
              | false =>
                simp only [hb, cond_false, Option.some.injEq] at hd
                subst hd
                have hne : inf.size ≠ 0 := fun e => by rw [e] at hb; cases hb
                refine upon_value' (v := .pointer (some ⟨n, j * z + (i + fd.offset), none⟩)) ?_ (hk _ _ w ρ _ hpre hR (R_e j z (i + fd.offset) hn) h)
                simp only [execOp, ho, hx, Instr.fieldAt, Sem.run_bind, run_underlying hu, Result.andThen_ok, hf, run_sure, fieldPlace, sizeOf, run_typeInfo w hinf]
                simp only [pure, Sem.run, Result.andThen_ok, hne, if_false, addr_add, Nat.add_assoc]
            · cases hd
          · cases hd
        · cases hd
      · exact h.elim
    · rename_i k j z i hki
      rw [hki] at hx
      obtain ⟨n, off, hn, hoff, hx⟩ := hx
      split at h
      · rename_i d hd
        unfold fieldX at hd
        split at hd
        · rename_i fields hu
          split at hd
          · rename_i fd hf
            split at hd
            · rename_i inf hinf
              cases hb : Nat.beq inf.size 0 with
              | true => simp [hb] at hd
              | false =>
                simp only [hb, cond_false, Option.some.injEq] at hd
                subst hd
                have hne : inf.size ≠ 0 := fun e => by rw [e] at hb; cases hb
                refine upon_value' (v := .pointer (some ⟨n, off + j * z + (i + fd.offset), none⟩)) ?_ (hk _ _ w ρ _ hpre hR (show (AV.fe k j z (i + fd.offset)).R ρ _ from ⟨n, off, hn, hoff, rfl⟩) h)
                simp only [execOp, ho, hx, Instr.fieldAt, Sem.run_bind, run_underlying hu, Result.andThen_ok, hf, run_sure, fieldPlace, sizeOf, run_typeInfo w hinf]
                simp only [pure, Sem.run, Result.andThen_ok, hne, if_false, addr_add, Nat.add_assoc]
            · cases hd
          · cases hd
        · cases hd
      · exact h.elim
    · exact gen_R (by simp [ho]) hT hR h hk
  | nilCheck x =>
    simp only [ho] at h
    have hx := ev_R hT x
    split at h
    · rename_i k i hki
      rw [hki] at hx
      obtain ⟨n, hn, hx'⟩ := hx
      refine upon_value' (v := .pointer (some ⟨n, i, none⟩)) ?_ (hk _ _ w ρ _ hpre hR (R_p _ hn) h)
      simp only [execOp, ho, hx']
      rfl
    · rename_i f l hki
      rw [hki] at hx
      have hx0 := hx
      obtain ⟨r, hn, hx'⟩ := hx
      refine upon_value' (v := .func (.func f) #[] r.toArray) ?_ (hk _ _ w ρ _ hpre hR (R_c hn) h)
      simp only [execOp, ho, hx']
      rfl
    · exact gen_R (by simp [ho]) hT hR h hk
  | makeFunc fn first caps =>
    simp only [ho] at h
    split at h
    · rename_i g l hfi hpt
      have hfi' : first = #[] := by cases first; simp_all
      subst hfi'
      have hr := ptrsOf_R hpt (RL.evs hT caps.toList)
      refine upon_value' (v := .func (.func g) #[] (caps.toList.map a.eval).toArray) ?_ (hk _ _ w ρ _ hpre hR (R_c hr) h)
      simp only [execOp, ho]
      have e : caps.map a.eval = (caps.toList.map a.eval).toArray := by
        apply Array.ext'; simp
      rw [e, show Array.map a.eval #[] = #[] from by simp]
      rfl
    · exact gen_R (by simp [ho]) hT hR h hk
  | call c =>
    simp only [ho] at h
    cases hc : c.callee with
    | value f =>
      simp only [hc] at h
      have hf := ev_R hT f
      split at h
      · rename_i g first caps hfe
        rw [hfe] at hf
        have hf : a.eval f = .func (.func g) first caps := hf
        have e : (first.toList ++ c.args.toList.map a.eval ++ caps.toList).toArray = first ++ c.args.map a.eval ++ caps := by
          apply Array.ext'; simp
        have hall := (RL.append (RL.append (RL.vals (ρ := ρ) first.toList) (RL.evs hT c.args.toList)) (RL.vals caps.toList))
        cases hx : extX Γ g (first.toList.map .v ++ c.args.toList.map (ev st.tm) ++ caps.toList.map .v) (fun v => K (.v v) st.hp) with
        | some p =>
          simp only [hx] at h
          obtain ⟨v, hkv, hrun⟩ := extX_run hΓ hx h
          have hr := hrun hall w
          rw [e] at hr
          exact upon_value' (run_call_ext ho hc hf hr) (hk _ _ w ρ v hpre hR (R_v _) hkv)
        | none =>
        simp only [hx] at h
        obtain ⟨h1, h2⟩ := callX_sound hΓ hΦ hi hR hall h
        refine upon_call (run_call ho hc hf h1 w) ?_ hk
        rw [e] at h2
        exact h2
      · rename_i g l hfe
        rw [hfe] at hf
        obtain ⟨r, hr, hf⟩ := hf
        obtain ⟨h1, h2⟩ := callX_sound hΓ hΦ hi hR (RL.append (RL.evs hT c.args.toList) (RL.ptrs hr)) h
        refine upon_call (run_call ho hc hf h1 w) ?_ hk
        have e : (c.args.toList.map a.eval ++ r).toArray = #[] ++ c.args.map a.eval ++ r.toArray := by
          apply Array.ext'; simp
        rw [e] at h2
        exact h2
      · exact h.elim
    | builtin b =>
      simp only [hc] at h
      cases hb : isApp b with
      | true =>
        simp only [hb, cond_true] at h
        obtain rfl : b = .append := by cases b <;> simp_all [isApp]
        cases hsa : isStrA (c.args.toList.map (ev st.tm)) with
        | true =>
          simp only [hsa, cond_true] at h
          obtain ⟨av, hp', w', ρ', v', a1, a2, a3, a4, a5⟩ := appS_run (P := P) hR (RL.evs hT c.args.toList) o.type (c.args.map fun | .const _ => true | _ => false) h
          exact upon_value' (by rw [run_builtin ho hc w]; exact a5) (hk _ _ _ _ _ a1 a2 a3 a4)
        | false =>
        simp only [hsa, cond_false] at h
        obtain ⟨av, hp', w', ρ', v', a1, a2, a3, a4, a5⟩ := appX2_run (P := P) hR (RL.evs hT c.args.toList) o.type (c.args.map fun | .const _ => true | _ => false) h
        exact upon_value' (by rw [run_builtin ho hc w]; exact a5) (hk _ _ _ _ _ a1 a2 a3 a4)
      | false =>
      simp only [hb, cond_false] at h
      split at h
      · rename_i n hn
        refine upon_value' (v := .int .i64 n) ?_ (hk _ _ w ρ _ hpre hR (R_v _) h)
        rw [run_builtin ho hc w]
        exact lenX_run hn (RL.evs hT c.args.toList) _ _ w
      · exact gen_R (by simp [ho]) hT hR h hk
    | invoke r m => simp only [hc] at h
  | indexAddr t x i =>
    simp only [ho] at h
    rcases indexX_val h with h | ⟨α, h, hα⟩
    · exact gen_R (by simp [ho]) hT hR h hk
    · obtain ⟨v, hv, hrun⟩ := hα ρ _ _ (ev_R hT x) (ev_R hT i)
      refine upon_value' (v := v) ?_ (hk _ _ w ρ _ hpre hR hv h)
      simp only [execOp, ho, Sem.run_bind, hrun w, Result.andThen_ok]
      rfl
  | buildSlice t len parts =>
    simp only [ho] at h
    split at h
    · rename_i e cells hp
      have hrun := partsX_run (a := a) hp (fun q _ hv => evV_eq hT hv) w
      refine upon_value' (v := .slice (some ⟨w.heap.size, 0, none⟩) len len) (w' := w.alloc (.cells cells e)) ?_ (hk _ _ _ _ _ (Ext.new (hR.dom _ (hpF_none _)) _) (by rw [hpF_new]; exact hR.new (hpF_none _) (by simp) (fun q hq => by rw [lget_map _ _ (by simpa using hq)]; show _ = _; simp [List.getD, Array.getD_eq_getD_getElem?])) (R_s 0 len len (by simp [rnew])) h)
      simp only [execOp, ho, Sem.run_bind, hrun, Result.andThen_ok]
      rfl
    · exact h.elim
  | binOp op t x y yt =>
    simp only [ho] at h
    have hx := ev_R hT x
    have hy := ev_R hT y
    unfold binX at h
    split at h
    · rename_i k p k' q e1 e2
      rw [e1] at hx
      rw [e2] at hy
      have hx : a.eval x = .int k p := hx
      have hy : a.eval y = .int k' q := hy
      by_cases hkk : k = k'
      · subst hkk
        simp only [decide_true, cond_true] at h
        have hq := bcase_iff.1 h
        have hq0 : q ≠ 0 := fun e => (hq.1 (by simp [e])).elim
        refine upon_value' (v := .int k (k.wrap (p.tdiv q))) ?_ (hk _ _ w ρ _ hpre hR (R_v _) (hq.2 (by simpa using hq0)))
        simp only [execOp, ho, hx, hy, binOp, Op.intDiv, eqGuard]
        simp [hq0]
      · simp [hkk] at h
    · rename_i k p k' q e1 e2
      rw [e1] at hx
      rw [e2] at hy
      have hx : a.eval x = .int k p := hx
      have hy : a.eval y = .int k' q := hy
      by_cases hkk : k = k'
      · subst hkk
        simp only [decide_true, cond_true] at h
        have hq := bcase_iff.1 h
        have hq0 : q ≠ 0 := fun e => (hq.1 (by simp [e])).elim
        refine upon_value' (v := .int k (p.tmod q)) ?_ (hk _ _ w ρ _ hpre hR (R_v _) (hq.2 (by simpa using hq0)))
        simp only [execOp, ho, hx, hy, binOp, Op.intDiv, eqGuard]
        simp [hq0]
      · simp [hkk] at h
    · rename_i k p k' q e1 e2
      rw [e1] at hx
      rw [e2] at hy
      have hx : a.eval x = .int k p := hx
      have hy : a.eval y = .int k' q := hy
      by_cases hkk : k = k'
      · subst hkk
        simp only [decide_true, cond_true] at h
        refine upon_value' (v := .int k (andI k p q)) ?_ (hk _ _ w ρ _ hpre hR (R_v _) h)
        simp only [execOp, ho, hx, hy, binOp, Op.intBits, eqGuard]
        simp [andI]
      · simp [hkk] at h
    · rename_i k p k' q e1 e2
      rw [e1] at hx
      rw [e2] at hy
      have hx : a.eval x = .int k p := hx
      have hy : a.eval y = .int k' q := hy
      by_cases hkk : k = k'
      · subst hkk
        simp only [decide_true, cond_true] at h
        refine upon_value' (v := .int k (orI k p q)) ?_ (hk _ _ w ρ _ hpre hR (R_v _) h)
        simp only [execOp, ho, hx, hy, binOp, Op.intBits, eqGuard]
        simp [orI]
      · simp [hkk] at h
    · rename_i k p k' q e1 e2
      rw [e1] at hx
      rw [e2] at hy
      have hx : a.eval x = .int k p := hx
      have hy : a.eval y = .int k' q := hy
      have hq := bcase_iff.1 h
      have hq0 : ¬ q < 0 := fun e => (hq.1 (by simpa using e)).elim
      refine upon_value' (v := .int k (k.wrap (p * 2 ^ (min q.toNat k.bits)))) ?_ (hk _ _ w ρ _ hpre hR (R_v _) (hq.2 (by simpa using hq0)))
      simp only [execOp, ho, hx, hy, binOp, Op.shift, eqGuard]
      simp [hq0]
    · rename_i k p k' q e1 e2
      rw [e1] at hx
      rw [e2] at hy
      have hx : a.eval x = .int k p := hx
      have hy : a.eval y = .int k' q := hy
      have hq := bcase_iff.1 h
      have hq0 : ¬ q < 0 := fun e => (hq.1 (by simpa using e)).elim
      refine upon_value' (v := .int k (p.fdiv (2 ^ (min q.toNat k.bits)))) ?_ (hk _ _ w ρ _ hpre hR (R_v _) (hq.2 (by simpa using hq0)))
      simp only [execOp, ho, hx, hy, binOp, Op.shift, eqGuard]
      simp [hq0]
    · rename_i p q e1 e2
      rw [e1] at hx
      rw [e2] at hy
      have hx : a.eval x = .agg p := hx
      have hy : a.eval y = .agg q := hy
      split at h
      · rename_i r hr
        refine upon_value' (v := .bool r) ?_ (hk _ _ w ρ _ hpre hR (R_v _) h)
        simp only [execOp, ho, hx, hy]
        rw [Sem.run_bind, (eqlX_run hr x y w).1]
        rfl
      · exact h.elim
    · rename_i p q e1 e2
      rw [e1] at hx
      rw [e2] at hy
      have hx : a.eval x = .agg p := hx
      have hy : a.eval y = .agg q := hy
      split at h
      · rename_i r hr
        refine upon_value' (v := .bool (!r)) ?_ (hk _ _ w ρ _ hpre hR (R_v _) h)
        simp only [execOp, ho, hx, hy]
        rw [Sem.run_bind, (eqlX_run hr x y w).2]
        rfl
      · exact h.elim
    · rename_i p q e1 e2
      rw [e1] at hx
      rw [e2] at hy
      have hx : a.eval x = .string p := hx
      have hy : a.eval y = .string q := hy
      have hq := bcase_iff.1 h
      have hq0 : ¬ (((p.size + q.size : Nat) : Int) > IntKind.i64.max) := fun e => (hq.1 (by unfold tooLong; simpa using e)).elim
      refine upon_value' (v := .string (p ++ q)) ?_ (hk _ _ w ρ _ hpre hR (R_v _) (hq.2 (by unfold tooLong; simpa using hq0)))
      simp only [execOp, ho, hx, hy, binOp, Op.stringOp, eqGuard]
      rw [if_neg hq0]
      rfl
    · exact gen_R (by simp [ho]) hT hR h hk
  | convert s d x =>
    simp only [ho] at h
    have hx := ev_R hT x
    unfold convX at h
    split at h
    · rename_i e hs hd
      split at h
      · rename_i he
        obtain ⟨m, ys, pos, hk', _, _, hh⟩ := srcY_run (B := B) (w0 := w0) h
        have hrun := conv_str_run hs he hd (hh hR (fun k _ b hb => hb) hx)
        refine upon_value' (v := .string (strV ys)) ?_ (hk _ _ w ρ _ hpre hR (R_v _) hk')
        simp only [execOp, ho, Sem.run_bind, hrun, Result.andThen_ok]
        rfl
      · exact h.elim
    · rename_i e hs hd
      split at h
      · rename_i q he hq
        obtain ⟨v, w', ρ', hrun, e1, e2, e3⟩ := conv_bytes_run (P := P) hR (hpF_none _) (by simp [hpF]) (x := q) hs hd he
        have hx' : a.eval x = .string q := by
          unfold strOf at hq
          split at hq
          · rename_i q' hq'
            cases hq
            rw [hq'] at hx
            exact hx
          · cases hq
        refine upon_value' (v := v) ?_ (hk _ _ w' ρ' _ e1 (by rw [hpF_new2]; exact e2) e3 h)
        simp only [execOp, ho, hx', Sem.run_bind, hrun, Result.andThen_ok]
        rfl
      · exact h.elim
    · exact gen_sound (by simp [ho]) hT h fun v hv => hk (.v v) _ _ ρ v hpre hR rfl hv
  | select cs b => simp only [ho] at h
  | makeSlice t x y =>
    simp only [ho] at h
    obtain ⟨av, hp', w', ρ', v', a1, a2, a3, a4, a5⟩ := makeX_run (P := P) hR (ev_R hT x) (ev_R hT y) h
    refine upon_value' (v := v') (w' := w') ?_ (hk _ _ _ _ _ a1 a2 a3 a4)
    simp only [execOp, ho, Sem.run_bind, a5, Result.andThen_ok]
    rfl
  | _ =>
    simp only [ho] at h
    rcases valOp_val h with h | ⟨α, h, hα⟩
    · exact gen_R (by simp [ho]) hT hR h hk
    · obtain ⟨v, hv, hrun⟩ := hα ρ a (fun x _ => ev_R hT x)
      exact upon_value' (hrun w) (hk _ _ w ρ _ hpre hR hv h)
end
section
variable {P : Program} {B : Nat} {w0 w : World} {ρ : Nat → Option Nat} {hp : List Blk}
def dput (tm : List AV) (d : Option Nat) (a : AV) : List AV := match d with | none => tm | some d => lset tm d a
theorem RT.dput {tm : List AV} {a : Act} (h : RT ρ tm a.tmps) (d : Option Nat) {x : AV} {v : Value} (hr : x.R ρ v) : RT ρ (dput tm d x) (a.put d v).tmps := by
  cases d with
  | none => exact h
  | some d => exact h.set d hr
theorem put_defers {a : Act} (d : Option Nat) (v : Value) : (a.put d v).defers = a.defers := by cases d <;> rfl
def lnth : List Oper → Nat → Option Oper
  | [], _ => none
  | x :: _, 0 => some x
  | _ :: l, n + 1 => lnth l n
theorem lnth_eq : ∀ (l : List Oper) (n : Nat), lnth l n = l[n]?
  | [], _ => by simp [lnth]
  | _ :: _, 0 => rfl
  | _ :: l, n + 1 => by simpa [lnth] using lnth_eq l n
def wantX (all : List Oper) (st : AS) (o : Oper) (yes no : AS → Prop) : Prop :=
  match o.guard with
  | none => yes st
  | some (j, want) =>
    match lnth all j with
    | some g =>
      match g.dst with
      | some d =>
        match lget st.tm d with
        | .v (.bool b) => bcase b (bif want then yes ⟨lset st.tm d (.v (.bool true)), st.hp⟩ else no ⟨lset st.tm d (.v (.bool true)), st.hp⟩)
                                  (bif want then no ⟨lset st.tm d (.v (.bool false)), st.hp⟩ else yes ⟨lset st.tm d (.v (.bool false)), st.hp⟩)
        | .v _ => no st
        | _ => False
      | none => no st
    | none => no st
theorem setIf_self (t : Array Value) (d : Nat) (v : Value) (h : t.getD d undef = v) (hd : d < t.size) : t.setIfInBounds d v = t := by
  apply Array.ext
  · simp
  · intro i h1 h2
    rw [Array.getElem_setIfInBounds]
    split
    · rename_i e; subst e; subst h; simp [hd]
    · rfl
theorem RT.known {tm : List AV} {t : Array Value} (h : RT ρ tm t) {d : Nat} {v : Value} (hv : lget tm d = .v v) : RT ρ (lset tm d (.v v)) t := by
  have h1 := h.2 d
  rw [hv] at h1
  have h1 : t.getD d undef = v := h1
  by_cases hd : d < t.size
  · have := h.set d (a := .v v) (v := v) rfl
    rw [setIf_self t d v h1 hd] at this
    exact this
  · refine ⟨by rw [lset_length]; exact h.1, fun i => ?_⟩
    rw [lget_lset, if_neg (fun q => hd (by rw [← h.1]; exact q.2))]
    exact h.2 i
def boolOf : Value → Option Bool
  | .bool b => some b
  | _ => none
theorem yielded_some {all : Array Oper} {t : Array Value} {j d : Nat} {g : Oper} (hj : all[j]? = some g) (hd : g.dst = some d) : yielded all t j = boolOf (t.getD d undef) := by
  unfold yielded
  simp only [hj, Option.bind_some, hd]
  by_cases hlt : d < t.size
  · simp only [hlt, Array.getElem?_eq_getElem, Array.getD, dif_pos]
    show _ = boolOf t[d]
    cases t[d] <;> rfl
  · rw [Array.getElem?_eq_none (by omega)]
    simp [Array.getD, hlt, undef, boolOf]
theorem wantX_sound {all : Array Oper} {st : AS} {a : Act} {o : Oper} {yes no : AS → Prop} {G : Prop} (hT : RT ρ st.tm a.tmps) (h : wantX all.toList st o yes no)
    (hy : Region.wanted o (yielded all a.tmps) = true → ∀ st', st'.hp = st.hp → RT ρ st'.tm a.tmps → yes st' → G)
    (hn : Region.wanted o (yielded all a.tmps) = false → ∀ st', st'.hp = st.hp → RT ρ st'.tm a.tmps → no st' → G) : G := by
  unfold wantX at h
  unfold Region.wanted at hy hn
  cases hg : o.guard with
  | none => simp only [hg] at h hy; exact hy trivial st rfl hT h
  | some jw =>
    obtain ⟨j, want⟩ := jw
    simp only [hg] at h hy hn
    rw [lnth_eq] at h
    cases hj : all.toList[j]? with
    | none =>
      have hj' : all[j]? = none := by simpa using hj
      simp only [hj] at h
      exact hn (by simp [yielded, hj']) st rfl hT h
    | some g =>
      have hj' : all[j]? = some g := by simpa using hj
      simp only [hj] at h
      cases hd : g.dst with
      | none =>
        simp only [hd] at h
        exact hn (by simp [yielded, hj', hd]) st rfl hT h
      | some d =>
        simp only [hd] at h
        have hr := hT.2 d
        rw [yielded_some hj' hd] at hy hn
        cases hl : lget st.tm d with
        | v x =>
          rw [hl] at hr
          have hr : a.tmps.getD d undef = x := hr
          have hk := hT.known hl
          rw [hr] at hy hn
          simp only [hl] at h
          cases x with
          | bool b =>
            cases b <;> cases want <;> simp only [bcase, cond_true, cond_false] at h
            · exact hy rfl ⟨lset st.tm d (.v (.bool false)), st.hp⟩ rfl hk h
            · exact hn rfl ⟨lset st.tm d (.v (.bool false)), st.hp⟩ rfl hk h
            · exact hn rfl ⟨lset st.tm d (.v (.bool true)), st.hp⟩ rfl hk h
            · exact hy rfl ⟨lset st.tm d (.v (.bool true)), st.hp⟩ rfl hk h
          | _ => exact hn rfl st rfl hT h
        | _ => simp only [hl] at h
def forceL : List AV → (List AV → Prop) → Prop
  | [], k => k []
  | x :: l, k => forceL l fun l' => k (x :: l')
theorem forceL_eq : ∀ (l : List AV) (k : List AV → Prop), forceL l k = k l
  | [], _ => rfl
  | x :: l, k => by unfold forceL; rw [forceL_eq l]
def opsX (P : Program) (Γ : List (FuncId × CSpec)) (inl : Inl) (all : List Oper) : List Oper → AS → (AS → Prop) → Prop
  | [], st, K => K st
  | o :: rest, st, K => wantX all st o (fun st => opX P Γ inl true o st fun av hp => forceL (dput st.tm o.dst av) fun tm => opsX P Γ inl all rest ⟨tm, hp⟩ K)
      (fun st => forceL (dput st.tm o.dst (.v undef)) fun tm => opsX P Γ inl all rest ⟨tm, st.hp⟩ K)
theorem opsX_sound {ds : List Deferred} {Φ : World → Prop} {Γ : List (FuncId × CSpec)} {inl : Inl} (hΓ : Sound P Φ Γ) (hΦ : ∀ w, Below B w0 w → B ≤ w.heap.size → Φ w) (hi : InlSound P B w0 inl)
    {all : Array Oper} {K : AS → Prop} {Q : Exit → Act → World → Prop} : ∀ (rest : List Oper) (k : Nat), (∀ j, rest[j]? = all[k + j]?) → ∀ {st : AS} {a : Act} {w : World} {ρ : Nat → Option Nat},
    RT ρ st.tm a.tmps → a.defers = ds → Rel B w0 ρ (hpF st.hp) w → opsX P Γ inl all.toList rest st K →
    (∀ st' a' w' ρ', Ext ρ ρ' → RT ρ' st'.tm a'.tmps → a'.defers = ds → Rel B w0 ρ' (hpF st'.hp) w' → K st' → Q .normal a' w') →
    wpOps P all Q (List.range' k rest.length) a w
  | [], k, hl, st, a, w, ρ, hT, hd, hR, h, hk => hk st a w ρ (Ext.refl ρ) hT hd hR h
  | o :: rest, k, hl, st, a, w, ρ, hT, hd, hR, h, hk => by
    have h0 : all[k]? = some o := by simpa using (hl 0).symm
    have hl' : ∀ j, rest[j]? = all[k + 1 + j]? := fun j => by have := hl (j + 1); simpa [Nat.add_assoc, Nat.add_comm 1 j] using this
    simp only [List.length_cons, List.range'_succ, wpOps, h0]
    simp only [opsX, forceL_eq] at h
    refine wantX_sound hT h (fun hw st' e hT' h' => ?_) (fun hw st' e hT' h' => ?_)
    · simp only [hw, if_true]
      refine .inl (opX_sound hΓ hΦ hi hT' (by rw [e]; exact hR) h' fun av hp' w' ρ' v h1 h2 h3 h4 => ?_)
      exact opsX_sound hΓ hΦ hi rest (k + 1) hl' ((hT'.mono h1).dput o.dst h3) (by rw [put_defers]; exact hd) h2 h4
        fun st'' a'' w'' ρ'' k1 k2 k3 k4 k5 => hk st'' a'' w'' ρ'' (h1.trans k1) k2 k3 k4 k5
    · simp only [hw, Bool.false_eq_true, if_false]
      exact opsX_sound hΓ hΦ hi rest (k + 1) hl' (hT'.dput o.dst (R_v undef)) (by rw [put_defers]; exact hd) (by show Rel _ _ _ (hpF st'.hp) w; rw [e]; exact hR) h' hk
end
section
variable {P : Program} {B : Nat} {w0 w : World} {ρ : Nat → Option Nat} {hp : List Blk}
/-! A region whose order is open. -/
inductive Kd where
  | val (R : List (Nat × Blk))
  | put (k : Nat) (b y : Blk)
  | new (k : Nat) (b : Blk)
  | call (R : List (Nat × Blk)) (n : Nat) (l : List Blk)
  | app (ks R : List (Nat × Blk)) (n : Nat) (l : List Blk)
def killL (H : Nat → Option Blk) (ks : List (Nat × Blk)) : Nat → Option Blk := fun i => if i ∈ ks.map (·.1) then some deadB else H i
def Kd.on (H : Nat → Option Blk) : Kd → Prop
  | .val R => ∀ q ∈ R, H q.1 = some q.2
  | .put k b _ => H k = some b
  | .new k _ => H k = none
  | .call R n l => (∀ q ∈ R, H q.1 = some q.2) ∧ ∀ i, n ≤ i → i < n + l.length → H i = none
  | .app ks R n l => (∀ q ∈ ks ++ R, H q.1 = some q.2) ∧ ∀ i, n ≤ i → i < n + l.length → H i = none
def Kd.eff (H : Nat → Option Blk) : Kd → Nat → Option Blk
  | .val _ => H
  | .put k _ y => upd H k y
  | .new k b => upd H k b
  | .call _ n l => updL H n l
  | .app ks _ n l => updL (killL H ks) n l
def Kd.reads : Kd → List Nat
  | .val R => R.map (·.1)
  | .put k _ _ => [k]
  | .new k _ => [k]
  | .call R n l => R.map (·.1) ++ List.range' n l.length
  | .app ks R n l => (ks ++ R).map (·.1) ++ List.range' n l.length
def Kd.writes : Kd → List Nat
  | .val _ => []
  | .put k _ _ => [k]
  | .new k _ => [k]
  | .call _ n l => List.range' n l.length
  | .app ks _ n l => ks.map (·.1) ++ List.range' n l.length
def Kd.left : Kd → Nat → Option Blk
  | .val _, _ => none
  | .put _ _ y, _ => some y
  | .new _ b, _ => some b
  | .call _ n l, i => l[i - n]?
  | .app _ _ n l, i => if n ≤ i ∧ i < n + l.length then l[i - n]? else some deadB
theorem eff_eq (H : Nat → Option Blk) (x : Kd) (i : Nat) : x.eff H i = if i ∈ x.writes then x.left i else H i := by
  cases x with
  | val R => simp [Kd.eff, Kd.writes]
  | put k b y => simp only [Kd.eff, upd, Kd.writes, List.mem_singleton, Kd.left]
  | new k b => simp only [Kd.eff, upd, Kd.writes, List.mem_singleton, Kd.left]
  | call R n l => simp only [Kd.eff, updL, Kd.writes, List.mem_range'_1, Kd.left]
  | app ks R n l =>
    simp only [Kd.eff, updL, killL, Kd.writes, List.mem_append, List.mem_range'_1, Kd.left]
    by_cases h1 : n ≤ i ∧ i < n + l.length
    · rw [if_pos h1, if_pos (.inr h1), if_pos h1]
    · rw [if_neg h1]
      by_cases h2 : i ∈ ks.map (·.1)
      · rw [if_pos h2, if_pos (.inl h2), if_neg h1]
      · rw [if_neg h2, if_neg (fun q => q.elim h2 h1)]
def apartN (r w : List Nat) : Bool := w.all fun k => !memN k r
theorem apartN_iff {r w : List Nat} (h : apartN r w = true) {k : Nat} (hk : k ∈ w) : k ∉ r := by
  unfold apartN at h
  have := List.all_eq_true.1 h k hk
  exact memN_iff (by simpa using this)
def indepF (x y : List Nat × List Nat) : Bool := apartN x.1 y.2 && apartN y.1 x.2
def Kd.fp (x : Kd) : List Nat × List Nat := (x.reads, x.writes)
theorem on_eff {H : Nat → Option Blk} {x y : Kd} (h : apartN x.reads y.writes = true) : x.on (y.eff H) ↔ x.on H := by
  have key : ∀ k, k ∈ x.reads → y.eff H k = H k := fun k hk => by
    rw [eff_eq, if_neg (fun q => apartN_iff h q hk)]
  cases x with
  | val R =>
    simp only [Kd.on]
    constructor
    · intro q p hp; have := q p hp; rwa [key p.1 (List.mem_map.2 ⟨p, hp, rfl⟩)] at this
    · intro q p hp; rw [key p.1 (List.mem_map.2 ⟨p, hp, rfl⟩)]; exact q p hp
  | put k b c => simp only [Kd.on]; rw [key k (by simp [Kd.reads])]
  | new k b => simp only [Kd.on]; rw [key k (by simp [Kd.reads])]
  | call R n l =>
    simp only [Kd.on]
    have k1 : ∀ q ∈ R, y.eff H q.1 = H q.1 := fun q hq => key q.1 (by simp only [Kd.reads]; exact List.mem_append_left _ (List.mem_map.2 ⟨q, hq, rfl⟩))
    have k2 : ∀ i, n ≤ i → i < n + l.length → y.eff H i = H i := fun i h1 h2 => key i (by simp only [Kd.reads]; exact List.mem_append_right _ (List.mem_range'_1.2 ⟨h1, h2⟩))
    constructor
    · rintro ⟨q1, q2⟩
      exact ⟨fun p hp => by rw [← k1 p hp]; exact q1 p hp, fun i h1 h2 => by rw [← k2 i h1 h2]; exact q2 i h1 h2⟩
    · rintro ⟨q1, q2⟩
      exact ⟨fun p hp => by rw [k1 p hp]; exact q1 p hp, fun i h1 h2 => by rw [k2 i h1 h2]; exact q2 i h1 h2⟩
  | app ks R n l =>
    simp only [Kd.on]
    have k1 : ∀ q ∈ ks ++ R, y.eff H q.1 = H q.1 := fun q hq => key q.1 (by simp only [Kd.reads]; exact List.mem_append_left _ (List.mem_map.2 ⟨q, hq, rfl⟩))
    have k2 : ∀ i, n ≤ i → i < n + l.length → y.eff H i = H i := fun i h1 h2 => key i (by simp only [Kd.reads]; exact List.mem_append_right _ (List.mem_range'_1.2 ⟨h1, h2⟩))
    constructor
    · rintro ⟨q1, q2⟩
      exact ⟨fun p hp => by rw [← k1 p hp]; exact q1 p hp, fun i h1 h2 => by rw [← k2 i h1 h2]; exact q2 i h1 h2⟩
    · rintro ⟨q1, q2⟩
      exact ⟨fun p hp => by rw [k1 p hp]; exact q1 p hp, fun i h1 h2 => by rw [k2 i h1 h2]; exact q2 i h1 h2⟩
theorem writes_reads {x : Kd} {k : Nat} (h : k ∈ x.writes) : k ∈ x.reads := by
  cases x with
  | val R => cases h
  | put => exact h
  | new => exact h
  | call R n l => exact List.mem_append_right _ h
  | app ks R n l =>
    rcases List.mem_append.1 h with h | h
    · exact List.mem_append_left _ (by rw [List.map_append]; exact List.mem_append_left _ h)
    · exact List.mem_append_right _ h
theorem eff_comm {H : Nat → Option Blk} {x y : Kd} (h : indepF x.fp y.fp = true) : x.eff (y.eff H) = y.eff (x.eff H) := by
  have ne : ∀ k, k ∈ x.writes → k ∉ y.writes := fun k hk hj => by
    unfold indepF at h
    simp only [Bool.and_eq_true] at h
    exact apartN_iff h.1 hj (writes_reads hk)
  funext i
  rw [eff_eq, eff_eq, eff_eq, eff_eq]
  by_cases h1 : i ∈ x.writes
  · rw [if_pos h1, if_neg (ne i h1), if_pos h1]
  · rw [if_neg h1, if_neg h1]
section
variable {ops : Array Oper} {md : Region.Mode}
def RTo (ops : Array Oper) (o : Oper) (ρ : Nat → Option Nat) (tm : List AV) (a : Act) : Prop := ∀ t ∈ o.looksAt ops, (lget tm t).R ρ (a.tmps.getD t undef)
def Does (P : Program) (B : Nat) (w0 : World) (ops : Array Oper) (o : Oper) (tm : List AV) (α : AV) (kd : Kd) : Prop :=
  ∀ ρ a w H next Q, RTo ops o ρ tm a → Rel B w0 ρ H w → kd.on H → (∀ ρ' v w', Ext ρ ρ' → α.R ρ' v → Rel B w0 ρ' (kd.eff H) w' → next (a.put o.dst v) w') → o.wp P a w next Q
def Wd (ops : Array Oper) (o : Oper) (tm : List AV) (b : Bool) : Prop := ∀ ρ a, RTo ops o ρ tm a → Region.wanted o (yielded ops a.tmps) = b
def YD (P : Program) (B : Nat) (w0 : World) (ops : Array Oper) (o : Oper) (tm : List AV) (α : AV) (kd : Kd) : Prop :=
  (Wd ops o tm true ∧ Does P B w0 ops o tm α kd) ∨ (Wd ops o tm false ∧ α = .v undef ∧ kd = .val [])
theorem RTo.congr {o : Oper} {ρ : Nat → Option Nat} {tm tm' : List AV} {a : Act} (h : ∀ t ∈ o.looksAt ops, lget tm t = lget tm' t) (hr : RTo ops o ρ tm a) : RTo ops o ρ tm' a :=
  fun t ht => by rw [← h t ht]; exact hr t ht
theorem YD.congr {o : Oper} {tm tm' : List AV} {α : AV} {kd : Kd} (h : ∀ t ∈ o.looksAt ops, lget tm t = lget tm' t) (hy : YD P B w0 ops o tm α kd) : YD P B w0 ops o tm' α kd := by
  have h' : ∀ t ∈ o.looksAt ops, lget tm' t = lget tm t := fun t ht => (h t ht).symm
  rcases hy with ⟨h1, h2⟩ | ⟨h1, h2⟩
  · exact .inl ⟨fun ρ a hr => h1 ρ a (hr.congr h'), fun ρ a w H next Q hr => h2 ρ a w H next Q (hr.congr h')⟩
  · exact .inr ⟨fun ρ a hr => h1 ρ a (hr.congr h'), h2⟩
theorem dput_get {tm : List AV} {d : Option Nat} {x : AV} {t : Nat} (h : ∀ e, d = some e → e ≠ t) : lget (dput tm d x) t = lget tm t := by
  cases d with
  | none => rfl
  | some d =>
    show lget (lset tm d x) t = _
    rw [lget_lset, if_neg]
    intro q
    exact h d rfl q.1.symm
theorem lset_comm : ∀ (l : List AV) (i j : Nat) (x y : AV), i ≠ j → lset (lset l i x) j y = lset (lset l j y) i x
  | [], _, _, _, _, _ => rfl
  | a :: l, 0, 0, _, _, h => absurd rfl h
  | a :: l, 0, j + 1, _, _, _ => rfl
  | a :: l, i + 1, 0, _, _, _ => rfl
  | a :: l, i + 1, j + 1, x, y, h => by simp [lset, lset_comm l i j x y (by omega)]
theorem dput_comm (tm : List AV) {d e : Option Nat} (x y : AV) (h : ∀ i, d = some i → e ≠ some i) : dput (dput tm d x) e y = dput (dput tm e y) d x := by
  cases d with
  | none => rfl
  | some d =>
    cases e with
    | none => rfl
    | some e => exact lset_comm tm d e x y (fun q => h d rfl (by rw [q]))
def anyD (P : Program) (B : Nat) (w0 : World) (md : Region.Mode) (ops : Array Oper) (α : Nat → AV) (kd : Nat → Kd) (Fin : List AV → (Nat → Option Blk) → Prop) : Nat → Array Bool → List AV → (Nat → Option Blk) → Prop
  | 0, listed, tm, H => Region.ready md ops listed = [] ∧ Fin tm H
  | fuel + 1, listed, tm, H =>
    (Region.ready md ops listed = [] → Fin tm H) ∧
    ∀ i ∈ Region.ready md ops listed, ∃ o, ops[i]? = some o ∧ YD P B w0 ops o tm (α i) (kd i) ∧ (kd i).on H ∧
      anyD P B w0 md ops α kd Fin fuel (listed.setIfInBounds i true) (dput tm o.dst (α i)) ((kd i).eff H)
theorem RT.o {ρ : Nat → Option Nat} {tm : List AV} {a : Act} (h : RT ρ tm a.tmps) (o : Oper) : RTo ops o ρ tm a := fun t _ => h.2 t
theorem anyD_sound {ds : List Deferred} {α : Nat → AV} {kd : Nat → Kd} {Fin : List AV → (Nat → Option Blk) → Prop} {Q : Exit → Act → World → Prop} {ρ0 : Nat → Option Nat}
    (hQ : ∀ tm H ρ a w, Fin tm H → RT ρ tm a.tmps → a.defers = ds → Rel B w0 ρ H w → Ext ρ0 ρ → Q .normal a w) :
    ∀ (fuel : Nat) (listed : Array Bool) (tm : List AV) (H : Nat → Option Blk) (ρ : Nat → Option Nat) (a : Act) (w : World), Ext ρ0 ρ → RT ρ tm a.tmps → a.defers = ds → Rel B w0 ρ H w →
      anyD P B w0 md ops α kd Fin fuel listed tm H → wpAny P md ops Q fuel listed a w
  | 0, _, tm, H, ρ, a, w, he, hT, hd, hR, h => ⟨h.1, hQ tm H ρ a w h.2 hT hd hR he⟩
  | fuel + 1, listed, tm, H, ρ, a, w, he, hT, hd, hR, h => by
    refine ⟨fun h0 => hQ tm H ρ a w (h.1 h0) hT hd hR he, fun i hi => ?_⟩
    obtain ⟨o, ho, hy, hon, hrest⟩ := h.2 i hi
    unfold wpOp
    simp only [ho]
    rcases hy with ⟨h1, h2⟩ | ⟨h1, h2, h3⟩
    · rw [if_pos (h1 ρ a (hT.o o))]
      refine .inl (h2 ρ a w H _ Q (hT.o o) hR hon fun ρ' v w' e1 e2 e3 => ?_)
      exact anyD_sound hQ fuel _ _ _ ρ' _ w' (he.trans e1) ((hT.mono e1).dput o.dst e2) (by rw [put_defers]; exact hd) e3 hrest
    · rw [if_neg (by rw [h1 ρ a (hT.o o)]; simp)]
      rw [h2, h3] at hrest
      exact anyD_sound hQ fuel _ _ _ ρ _ w he (hT.dput o.dst (show (AV.v undef).R ρ undef from rfl)) (by rw [put_defers]; exact hd) hR hrest
def addN (xs ys : List Nat) : List Nat := xs.foldr (fun x r => bif memN x r then r else x :: r) ys
def ancOf (md : Region.Mode) (A : List (List Nat)) : List Edge → List Nat
  | [] => []
  | e :: l => bif Region.binds md e then addN (e.on :: A.getD e.on []) (ancOf md A l) else ancOf md A l
def ancL (md : Region.Mode) : List Oper → List (List Nat) → List (List Nat)
  | [], A => A
  | o :: l, A => ancL md l (A ++ [ancOf md A o.after.toList])
theorem memN_of : ∀ {n : Nat} {l : List Nat}, memN n l = true → n ∈ l
  | n, [], h => by cases h
  | n, m :: l, h => by
    simp only [memN, Bool.or_eq_true] at h
    rcases h with h | h
    · exact List.mem_cons.2 (.inl (Nat.eq_of_beq_eq_true h).symm)
    · exact List.mem_cons.2 (.inr (memN_of h))
theorem mem_addN {xs ys : List Nat} {n : Nat} (h : n ∈ addN xs ys) : n ∈ xs ∨ n ∈ ys := by
  unfold addN at h
  induction xs with
  | nil => exact .inr h
  | cons x xs ih =>
    simp only [List.foldr_cons] at h
    cases hm : memN x (xs.foldr (fun x r => bif memN x r then r else x :: r) ys) with
    | true => rw [hm] at h; rcases ih h with q | q
              · exact .inl (List.mem_cons.2 (.inr q))
              · exact .inr q
    | false =>
      rw [hm] at h
      rcases List.mem_cons.1 h with q | q
      · exact .inl (List.mem_cons.2 (.inl q))
      · rcases ih q with q | q
        · exact .inl (List.mem_cons.2 (.inr q))
        · exact .inr q
theorem mem_ancOf {A : List (List Nat)} {n : Nat} : ∀ {l : List Edge}, n ∈ ancOf md A l → ∃ e ∈ l, Region.binds md e = true ∧ (e.on = n ∨ n ∈ A.getD e.on [])
  | [], h => by cases h
  | e :: l, h => by
    unfold ancOf at h
    cases hb : Region.binds md e with
    | true =>
      rw [hb] at h
      rcases mem_addN h with q | q
      · rcases List.mem_cons.1 q with q | q
        · exact ⟨e, by simp, hb, .inl q.symm⟩
        · exact ⟨e, by simp, hb, .inr q⟩
      · obtain ⟨e', h1, h2⟩ := mem_ancOf q
        exact ⟨e', by simp [h1], h2⟩
    | false =>
      rw [hb] at h
      obtain ⟨e', h1, h2⟩ := mem_ancOf h
      exact ⟨e', by simp [h1], h2⟩
def AncOk (md : Region.Mode) (ops : Array Oper) (A : List (List Nat)) : Prop :=
  ∀ j i, i ∈ A.getD j [] → ∃ oj, ops[j]? = some oj ∧ ∃ e ∈ oj.after, Region.binds md e = true ∧ (e.on = i ∨ (e.on < j ∧ i ∈ A.getD e.on []))
theorem ancL_ok : ∀ (l : List Oper) (A : List (List Nat)), (∀ q, l[q]? = ops[A.length + q]?) → AncOk md ops A → AncOk md ops (ancL md l A)
  | [], A, _, h => h
  | o :: l, A, hl, h => by
    unfold ancL
    refine ancL_ok l _ (fun q => ?_) (fun j i hi => ?_)
    · have := hl (q + 1)
      simp only [List.getElem?_cons_succ] at this
      rw [this]
      congr 1
      simp; omega
    · have old : ∀ k, k < A.length → (A ++ [ancOf md A o.after.toList]).getD k [] = A.getD k [] := fun k hk => by
        simp [List.getD, List.getElem?_append_left hk]
      rcases Nat.lt_trichotomy j A.length with q | q | q
      · rw [old j q] at hi
        obtain ⟨oj, h1, e, h2, h3, h4⟩ := h j i hi
        refine ⟨oj, h1, e, h2, h3, ?_⟩
        rcases h4 with h4 | ⟨h4, h5⟩
        · exact .inl h4
        · exact .inr ⟨h4, by rw [old _ (by omega)]; exact h5⟩
      · subst q
        have e0 : (A ++ [ancOf md A o.after.toList]).getD A.length [] = ancOf md A o.after.toList := by simp [List.getD]
        rw [e0] at hi
        obtain ⟨e, h1, h2, h3⟩ := mem_ancOf hi
        refine ⟨o, by simpa using (hl 0).symm, e, by simpa using h1, h2, ?_⟩
        rcases h3 with h3 | h3
        · exact .inl h3
        · have hlt : e.on < A.length := by
            rcases Nat.lt_or_ge e.on A.length with r | r
            · exact r
            · simp [List.getD, List.getElem?_eq_none r] at h3
          exact .inr ⟨hlt, by rw [old _ hlt]; exact h3⟩
      · have : (A ++ [ancOf md A o.after.toList]).getD j [] = [] := by
          simp only [List.getD]
          rw [List.getElem?_eq_none (by simp; omega)]
          rfl
        rw [this] at hi
        cases hi
theorem ancL_ok0 (md : Region.Mode) (ops : Array Oper) : AncOk md ops (ancL md ops.toList []) := ancL_ok ops.toList [] (fun q => by simp) (fun j i h => by simp [List.getD] at h)
def waitsA (A : List (List Nat)) (i j : Nat) : Bool := memN i (A.getD j [])
theorem getD_rep (m j : Nat) : (Array.replicate m false).getD j false = false := by
  rcases Nat.lt_or_ge j m with h | h
  · simp [h]
  · simp [h]
structure Closed (md : Region.Mode) (ops : Array Oper) (listed : Array Bool) : Prop where
  size : listed.size = ops.size
  closed : ∀ (j : Nat) (oj : Oper), ops[j]? = some oj → listed.getD j false = true → ∀ e ∈ oj.after, Region.binds md e = true → listed.getD e.on false = true
theorem Closed.waits {listed : Array Bool} (hc : Closed md ops listed) {A : List (List Nat)} (hA : AncOk md ops A) {i : Nat} : ∀ (n j : Nat), j ≤ n → i ∈ A.getD j [] → listed.getD j false = true → listed.getD i false = true := by
  intro n
  induction n with
  | zero =>
    intro j hj h hl
    obtain ⟨oj, h1, e, h2, h3, h4⟩ := hA j i h
    have := hc.closed j oj h1 hl e h2 h3
    rcases h4 with h4 | ⟨h4, _⟩
    · rw [h4] at this; exact this
    · omega
  | succ n ih =>
    intro j hj h hl
    obtain ⟨oj, h1, e, h2, h3, h4⟩ := hA j i h
    have := hc.closed j oj h1 hl e h2 h3
    rcases h4 with h4 | ⟨h4, h5⟩
    · rw [h4] at this; exact this
    · exact ih e.on (by omega) h5 this
theorem getDb {listed : Array Bool} {i : Nat} (h : listed.getD i true = false) : listed.getD i false = false := by
  rcases Nat.lt_or_ge i listed.size with h' | h'
  · simp [h'] at h ⊢; exact h
  · simp [Array.getElem?_eq_none h'] at h
theorem Closed.notWaits {listed : Array Bool} (hc : Closed md ops listed) {A : List (List Nat)} (hA : AncOk md ops A) {i j : Nat} (hj : j ∈ Region.ready md ops listed) (hi : listed.getD i true = false) : waitsA A i j = false := by
  cases h : waitsA A i j with
  | false => rfl
  | true =>
    obtain ⟨_, o, ho, hall⟩ := mem_ready.1 hj
    obtain ⟨oj, h1, e, h2, h3, h4⟩ := hA j i (memN_of h)
    obtain rfl : oj = o := Option.some.inj (h1.symm.trans ho)
    have h5 := hall e h2 h3
    have h0 := getDb hi
    rcases h4 with h4 | ⟨_, h4⟩
    · rw [h4, h0] at h5; cases h5
    · rw [hc.waits hA e.on e.on (Nat.le_refl _) h4 h5] at h0; cases h0
theorem Closed.set {listed : Array Bool} (hc : Closed md ops listed) {i : Nat} (hi : i ∈ Region.ready md ops listed) : Closed md ops (listed.setIfInBounds i true) := by
  obtain ⟨_, oi, hoi, hall⟩ := mem_ready.1 hi
  have up : ∀ k, listed.getD k false = true → (listed.setIfInBounds i true).getD k false = true := fun k hk => by
    by_cases q : i = k
    · subst q
      rcases Nat.lt_or_ge i listed.size with h' | h'
      · simp [h']
      · simp [Array.getElem?_eq_none h'] at hk
    · rw [getD_set_ne false q]; exact hk
  refine ⟨by simp [hc.size], fun j oj hj hl e he hb => up _ ?_⟩
  by_cases hij : i = j
  · subst hij
    obtain rfl : oj = oi := Option.some.inj (hj.symm.trans hoi)
    exact hall e he hb
  · rw [getD_set_ne false hij] at hl
    exact hc.closed j oj hj hl e he hb
theorem anyD_first {α : Nat → AV} {kd : Nat → Kd} {Fin : List AV → (Nat → Option Blk) → Prop} {i : Nat} {A : List (List Nat)} (hA : AncOk md ops A) {oi : Oper} (hi : ops[i]? = some oi) :
    ∀ (fuel : Nat) (listed : Array Bool) (tm : List AV) (H : Nat → Option Blk), Closed md ops listed →
      (∀ j oj, ops[j]? = some oj → j ≠ i → listed.getD j true = false → (∀ e ∈ oj.after, Region.binds md e = true → e.on ≠ i) → oi.apart ops oj = true) →
      (∀ j oj, ops[j]? = some oj → j ≠ i → listed.getD j true = false → waitsA A i j = false → indepF (kd i).fp (kd j).fp = true) →
      i ∈ Region.ready md ops listed → YD P B w0 ops oi tm (α i) (kd i) → (kd i).on H →
      anyD P B w0 md ops α kd Fin fuel (listed.setIfInBounds i true) (dput tm oi.dst (α i)) ((kd i).eff H) → anyD P B w0 md ops α kd Fin (fuel + 1) listed tm H := by
  intro fuel
  induction fuel with
  | zero =>
    intro listed tm H hc _ _ hr hy hon h
    refine ⟨fun h0 => (by rw [h0] at hr; cases hr), fun j hj => ?_⟩
    by_cases hji : j = i
    · subst hji; exact ⟨oi, hi, hy, hon, h⟩
    · have := ready_mono hj hji
      rw [h.1] at this
      cases this
  | succ fuel ih =>
    intro listed tm H hc hfree hind hr hy hon h
    refine ⟨fun h0 => (by rw [h0] at hr; cases hr), fun j hj => ?_⟩
    by_cases hji : j = i
    · subst hji; exact ⟨oi, hi, hy, hon, h⟩
    · obtain ⟨oj, hoj, hyj, honj, hrest⟩ := h.2 j (ready_mono hj hji)
      have hjun := (mem_ready.1 hj).1
      have hiun := (mem_ready.1 hr).1
      obtain ⟨_, oj', hoj', hall⟩ := mem_ready.1 hj
      obtain rfl : oj' = oj := Option.some.inj (hoj'.symm.trans hoj)
      have hnot : ∀ e ∈ oj'.after, Region.binds md e = true → e.on ≠ i := fun e he hb heq => by
        have h1 := hall e he hb
        rw [heq, getDb hiun] at h1
        cases h1
      have hap := Oper.apart_spec (hfree j oj' hoj hji hjun hnot)
      have hin := hind j oj' hoj hji hjun (hc.notWaits hA hj hiun)
      have hin' := hin
      unfold indepF at hin'
      simp only [Bool.and_eq_true] at hin'
      obtain ⟨p1, p2, p3⟩ := hap
      refine ⟨oj', hoj, hyj.congr (fun t ht => dput_get fun e he q => p1 e he (q ▸ ht)), (on_eff hin'.2).1 honj, ?_⟩
      refine ih (listed.setIfInBounds j true) _ _ (hc.set hj) (fun k ok hk hki hun hno => ?_) (fun k ok hk hki hun hno => ?_) (ready_mono hr (Ne.symm hji))
        (hy.congr (fun t ht => (dput_get fun e he q => p3 e he (q ▸ ht)).symm)) ((on_eff hin'.1).2 hon) ?_
      · refine hfree k ok hk hki ?_ hno
        by_cases hjk : j = k
        · subst hjk; exact hjun
        · rw [getD_set_ne true hjk] at hun; exact hun
      · refine hind k ok hk hki ?_ hno
        by_cases hjk : j = k
        · subst hjk; exact hjun
        · rw [getD_set_ne true hjk] at hun; exact hun
      · rw [Array.setIfInBounds_comm _ _ hji, ← dput_comm tm (α i) (α j) p2, eff_comm hin]
        exact hrest
def runD (P : Program) (B : Nat) (w0 : World) (ops : Array Oper) (α : Nat → AV) (kd : Nat → Kd) (Fin : List AV → (Nat → Option Blk) → Prop) : List Oper → Nat → List AV → (Nat → Option Blk) → Prop
  | [], _, tm, H => Fin tm H
  | o :: l, k, tm, H => YD P B w0 ops o tm (α k) (kd k) ∧ (kd k).on H ∧ runD P B w0 ops α kd Fin l (k + 1) (dput tm o.dst (α k)) ((kd k).eff H)
def pairsA (A : List (List Nat)) (fps : List (List Nat × List Nat)) : Bool :=
  fps.zipIdx.all fun x => (fps.zipIdx.drop (x.2 + 1)).all fun y => indepF x.1 y.1 || waitsA A x.2 y.2
def pairsB (md : Region.Mode) (ops : Array Oper) (fps : List (List Nat × List Nat)) : Bool := pairsA (ancL md ops.toList []) fps
theorem anyD_lex {α : Nat → AV} {kd : Nat → Kd} {Fin : List AV → (Nat → Option Blk) → Prop}
    (hind : ∀ i j, i < j → j < ops.size → waitsA (ancL md ops.toList []) i j = false → indepF (kd i).fp (kd j).fp = true) : ∀ (l : List Oper) (k : Nat) (listed : Array Bool) (tm : List AV) (H : Nat → Option Blk), (∀ j, l[j]? = ops[k + j]?) →
    Closed md ops listed → (∀ j, j < k → j < ops.size → listed.getD j true = true) →
    Region.lexFrom md ops l.length k listed = true → runD P B w0 ops α kd Fin l k tm H → anyD P B w0 md ops α kd Fin l.length listed tm H
  | [], _, listed, tm, H, _, _, _, hB, h => ⟨by simpa [Region.lexFrom] using hB, h⟩
  | o :: l, k, listed, tm, H, hl, hc, hlist, hB, h => by
    have h0 : ops[k]? = some o := by simpa using (hl 0).symm
    simp only [List.length_cons, Region.lexFrom, Bool.and_eq_true] at hB
    obtain ⟨⟨hr, hf⟩, hB'⟩ := hB
    have hr : k ∈ Region.ready md ops listed := by simpa using hr
    obtain ⟨hy, hon, hrest⟩ := h
    refine anyD_first (ancL_ok0 md ops) h0 l.length listed tm H hc (Region.free_spec h0 hf) (fun j oj hoj hjk hun hw => ?_) hr hy hon ?_
    · have hjs : j < ops.size := (Array.getElem?_eq_some_iff.1 hoj).1
      refine hind k j ?_ hjs hw
      rcases Nat.lt_or_ge k j with q | q
      · exact q
      · have := hlist j (by omega) hjs
        rw [this] at hun; cases hun
    · refine anyD_lex hind l (k + 1) _ _ _ (fun j => by have := hl (j + 1); simpa [Nat.add_assoc, Nat.add_comm 1 j] using this) (hc.set hr) (fun j hj hjs => ?_) hB' hrest
      by_cases q : k = j
      · subst q
        have : k < listed.size := by rw [hc.size]; exact hjs
        simp [this]
      · rw [getD_set_ne true q]; exact hlist j (by omega) hjs
end
theorem looks_op {ops : Array Oper} {o : Oper} {t : Nat} (h : Operand.tmp t ∈ o.op.operands) : t ∈ o.looksAt ops := by
  unfold Oper.looksAt
  exact List.mem_append.2 (.inl (List.mem_filterMap.2 ⟨.tmp t, by simpa using h, rfl⟩))
theorem RTo.ev {ops : Array Oper} {o : Oper} {tm : List AV} {a : Act} (h : RTo ops o ρ tm a) {x : Operand} (hx : x ∈ o.op.operands) : (Abs.ev tm x).R ρ (a.eval x) := by
  cases x with
  | tmp t => exact h t (looks_op hx)
  | _ => rfl
theorem RL.evs' {tm : List AV} {a : Act} : ∀ (l : List Operand), (∀ x ∈ l, (ev tm x).R ρ (a.eval x)) → RL ρ (l.map (ev tm)) (l.map a.eval)
  | [], _ => trivial
  | x :: l, h => ⟨h x (by simp), RL.evs' l fun y hy => h y (by simp [hy])⟩
theorem evV_eq' {tm : List AV} {a : Act} {x : Operand} (h : (ev tm x).R ρ (a.eval x)) (hx : isV (ev tm x) = true) : a.eval x = evV tm x := by
  unfold evV
  cases e : ev tm x with
  | v b => rw [e] at h; exact h
  | _ => simp [e, isV] at hx
def ValD (P : Program) (B : Nat) (w0 : World) (o : Oper) (tm : List AV) (α : AV) : Prop :=
  ∀ ρ a w H next Q, (∀ x ∈ o.op.operands, (ev tm x).R ρ (a.eval x)) → Rel B w0 ρ H w → (∀ ρ' v w', Ext ρ ρ' → α.R ρ' v → Rel B w0 ρ' H w' → next (a.put o.dst v) w') → o.wp P a w next Q
theorem val_mk {o : Oper} {tm : List AV} {α : AV} (h : ∀ ρ (a : Act), (∀ x ∈ o.op.operands, (ev tm x).R ρ (a.eval x)) → ∃ v, α.R ρ v ∧ ∀ w, (execOp a.eval o).run P w = .ok (.value v) w) : ValD P B w0 o tm α :=
  fun ρ a w H next Q he hR hk => by
    obtain ⟨v, h1, h2⟩ := h ρ a he
    exact upon_value' (h2 w) (hk ρ v w (Ext.refl ρ) h1 hR)
theorem val_gen {o : Oper} {st : AS} {K : AV → List Blk → Prop} (hs : ∀ cs b, o.op ≠ .select cs b) (h : gen P o st K) : ∃ α, ValD P B w0 o st.tm α ∧ K α st.hp := by
  unfold gen at h
  cases hb : o.op.operands.toList.all (fun x => isV (ev st.tm x)) with
  | false => simp [hb] at h
  | true =>
    simp only [hb, cond_true] at h
    have hall := List.all_eq_true.1 hb
    cases hp : pureRun P (execOp (evV st.tm) o) with
    | none => simp [hp] at h
    | some n =>
      cases n <;> simp only [hp] at h
      case value v =>
        refine ⟨.v v, val_mk fun ρ a he => ⟨v, rfl, fun w => ?_⟩, h⟩
        rw [execOp_congr o hs fun x hx => evV_eq' (he x hx) (hall x (by simpa using hx)), pureRun_run hp]
theorem val_call {Φ : World → Prop} {Γ : List (FuncId × CSpec)} (hΓ : Sound P Φ Γ) (hΦ : ∀ w, Below B w0 w → B ≤ w.heap.size → Φ w) {o : Oper} {st : AS} {K : AV → List Blk → Prop} {g : FuncId} {args : List AV}
    (h : callX P Γ (fun _ _ _ _ => False) false g args st.hp K)
    (hrun : ∀ ρ (a : Act), (∀ x ∈ o.op.operands, (ev st.tm x).R ρ (a.eval x)) → ∃ vs va, RL ρ args vs ∧ vs.toArray = va ∧ (Callable P g → ∀ w, (execOp a.eval o).run P w = .ok (.enter g va) w)) :
    ∃ α, ValD P B w0 o st.tm α ∧ K α st.hp := by
  unfold callX at h
  cases hs : spec Γ g with
  | none => simp only [hs] at h
  | some s =>
   cases s with
   | r s => simp [hs] at h
   | e s => simp only [hs] at h
   | k s => simp only [hs] at h
   | w s => simp [hs] at h
   | o s => simp [hs] at h
   | i s => simp [hs] at h
   | p s => simp [hs] at h
   | v s =>
    simp only [hs] at h
    cases hv : vals args with
    | none => simp [hv] at h
    | some l =>
      simp only [hv] at h
      cases hp : s l with
      | none => simp [hp] at h
      | some q =>
        obtain ⟨p, v⟩ := q
        simp only [hp] at h
        obtain ⟨h1, h2⟩ := hΓ g _ hs
        refine ⟨.v v, fun ρ a w H next Q he hR hk => ?_, h.2⟩
        obtain ⟨vs, va, ha, hva, hr⟩ := hrun ρ a he
        unfold Oper.wp
        rw [hr h1 w, Oper.upon_enter, ← hva, vals_R hv ha]
        refine (h2 l p v hp h.1 w (hΦ w hR.below hR.base)).mono ?_
        rintro e w' ⟨rfl, hb⟩
        exact hk ρ v w' (Ext.refl ρ) rfl (hR.later hb)
   | q s =>
    simp only [hs] at h
    cases hv : vals args with
    | none => simp [hv] at h
    | some l =>
      simp only [hv] at h
      cases hp : s l with
      | none => simp [hp] at h
      | some q =>
        obtain ⟨p, Q'⟩ := q
        simp only [hp] at h
        obtain ⟨h1, h2⟩ := hΓ g _ hs
        obtain ⟨v, hA, hK⟩ := h2 l p Q' hp h.1 _ h.2
        refine ⟨.v v, fun ρ a w H next Q he hR hk => ?_, hK⟩
        obtain ⟨vs, va, ha, hva, hr⟩ := hrun ρ a he
        unfold Oper.wp
        rw [hr h1 w, Oper.upon_enter, ← hva, vals_R hv ha]
        refine (hA w (hΦ w hR.below hR.base)).mono ?_
        rintro e w' ⟨rfl, hb⟩
        exact hk ρ v w' (Ext.refl ρ) rfl (hR.later hb)
def isAppC (c : Call) : Bool := match c.callee with | .builtin b => isApp b | _ => false
def heapOp : Op → Bool
  | .alloc _ | .box _ _ | .store _ _ _ | .load _ _ | .buildSlice _ _ _ | .makeSlice _ _ _ | .convert _ _ _ => true
  | .call c => isAppC c
  | _ => false
theorem valX_sound {Φ : World → Prop} {Γ : List (FuncId × CSpec)} (hΓ : Sound P Φ Γ) (hΦ : ∀ w, Below B w0 w → B ≤ w.heap.size → Φ w) {o : Oper} {st : AS} {K : AV → List Blk → Prop} (hno : heapOp o.op = false)
    (h : opX P Γ (fun _ _ _ _ => False) false o st K) : ∃ α, ValD P B w0 o st.tm α ∧ K α st.hp := by
  unfold opX at h
  cases ho : o.op with
  | alloc T => rw [ho] at hno; cases hno
  | box T x => rw [ho] at hno; cases hno
  | store T x y => rw [ho] at hno; cases hno
  | load t x => rw [ho] at hno; cases hno
  | buildSlice t n ps => rw [ho] at hno; cases hno
  | makeSlice t x y => rw [ho] at hno; cases hno
  | convert t x y => rw [ho] at hno; cases hno
  | move x =>
    simp only [ho] at h
    exact ⟨_, val_mk fun ρ a he => ⟨a.eval x, he x (by simp [ho, Op.operands]), fun w => by simp only [execOp, ho]; rfl⟩, h⟩
  | assign x =>
    simp only [ho] at h
    exact ⟨_, val_mk fun ρ a he => ⟨a.eval x, he x (by simp [ho, Op.operands]), fun w => by simp only [execOp, ho]; rfl⟩, h⟩
  | pick c x y =>
    simp only [ho] at h
    split at h
    · rename_i t ht
      have hc : ∀ ρ (a : Act), (∀ x ∈ o.op.operands, (ev st.tm x).R ρ (a.eval x)) → a.eval c = .bool t := fun ρ a he => by
        have := he c (by simp [ho, Op.operands]); rw [ht] at this; exact this
      cases t with
      | true => exact ⟨_, val_mk fun ρ a he => ⟨a.eval x, he x (by simp [ho, Op.operands]), fun w => by simp only [execOp, ho, hc ρ a he]; rfl⟩, h⟩
      | false => exact ⟨_, val_mk fun ρ a he => ⟨a.eval y, he y (by simp [ho, Op.operands]), fun w => by simp only [execOp, ho, hc ρ a he]; rfl⟩, h⟩
    · exact h.elim
  | fieldAddr s x f =>
    simp only [ho] at h
    split at h
    · rename_i k i hki
      split at h
      · rename_i d hd
        refine ⟨_, val_mk fun ρ a he => ?_, h⟩
        have hx := he x (by simp [ho, Op.operands])
        rw [hki] at hx
        obtain ⟨n, hn, hx⟩ := hx
        unfold fieldX at hd
        split at hd
        · rename_i fields hu
          split at hd
          · rename_i fd hf
            split at hd
            · rename_i inf hinf
              cases hb : Nat.beq inf.size 0 with
              | true => simp [hb] at hd
              | false =>
                simp only [hb, cond_false, Option.some.injEq] at hd
                subst hd
                have hne : inf.size ≠ 0 := fun e => by rw [e] at hb; cases hb
                refine ⟨.pointer (some ⟨n, i + fd.offset, none⟩), R_p _ hn, fun w => ?_⟩
                simp only [execOp, ho, hx, Instr.fieldAt, Sem.run_bind, run_underlying hu, Result.andThen_ok, hf, run_sure, fieldPlace, sizeOf, run_typeInfo w hinf]
                simp only [pure, Sem.run, Result.andThen_ok, hne, if_false, addr_add]
            · cases hd
          · cases hd
        · cases hd
      · exact h.elim
    · rename_i k j z i hki
      split at h
      · rename_i d hd
        refine ⟨_, val_mk fun ρ a he => ?_, h⟩
        have hx := he x (by simp [ho, Op.operands])
        rw [hki] at hx
        obtain ⟨n, hn, hx⟩ := hx
        unfold fieldX at hd
        split at hd
        · rename_i fields hu
          split at hd
          · rename_i fd hf
            split at hd
            · rename_i inf hinf
              cases hb : Nat.beq inf.size 0 with
              | true => simp [hb] at hd
              | false =>
                simp only [hb, cond_false, Option.some.injEq] at hd
                subst hd
                have hne : inf.size ≠ 0 := fun e => by rw [e] at hb; cases hb
                refine ⟨.pointer (some ⟨n, j * z + (i + fd.offset), none⟩), ⟨n, hn, rfl⟩, fun w => ?_⟩
                simp only [execOp, ho, hx, Instr.fieldAt, Sem.run_bind, run_underlying hu, Result.andThen_ok, hf, run_sure, fieldPlace, sizeOf, run_typeInfo w hinf]
                simp only [pure, Sem.run, Result.andThen_ok, hne, if_false, addr_add, Nat.add_assoc]
            · cases hd
          · cases hd
        · cases hd
      · exact h.elim
    · rename_i k j z i hki
      split at h
      · rename_i d hd
        refine ⟨_, val_mk fun ρ a he => ?_, h⟩
        have hx := he x (by simp [ho, Op.operands])
        rw [hki] at hx
        obtain ⟨n, off, hn, hoff, hx⟩ := hx
        unfold fieldX at hd
        split at hd
        · rename_i fields hu
          split at hd
          · rename_i fd hf
            split at hd
            · rename_i inf hinf
              cases hb : Nat.beq inf.size 0 with
              | true => simp [hb] at hd
              | false =>
                simp only [hb, cond_false, Option.some.injEq] at hd
                subst hd
                have hne : inf.size ≠ 0 := fun e => by rw [e] at hb; cases hb
                refine ⟨.pointer (some ⟨n, off + j * z + (i + fd.offset), none⟩), (show (AV.fe k j z (i + fd.offset)).R ρ _ from ⟨n, off, hn, hoff, rfl⟩), fun w => ?_⟩
                simp only [execOp, ho, hx, Instr.fieldAt, Sem.run_bind, run_underlying hu, Result.andThen_ok, hf, run_sure, fieldPlace, sizeOf, run_typeInfo w hinf]
                simp only [pure, Sem.run, Result.andThen_ok, hne, if_false, addr_add, Nat.add_assoc]
            · cases hd
          · cases hd
        · cases hd
      · exact h.elim
    · exact val_gen (by simp [ho]) h
  | nilCheck x =>
    simp only [ho] at h
    split at h
    · rename_i k i hki
      refine ⟨_, val_mk fun ρ a he => ?_, h⟩
      have hx := he x (by simp [ho, Op.operands])
      rw [hki] at hx
      obtain ⟨n, hn, hx'⟩ := hx
      exact ⟨_, R_p _ hn, fun w => by simp only [execOp, ho, hx']; rfl⟩
    · rename_i f l hki
      refine ⟨_, val_mk fun ρ a he => ?_, h⟩
      have hx := he x (by simp [ho, Op.operands])
      rw [hki] at hx
      obtain ⟨r, hn, hx'⟩ := hx
      exact ⟨_, R_c hn, fun w => by simp only [execOp, ho, hx']; rfl⟩
    · exact val_gen (by simp [ho]) h
  | makeFunc fn first caps =>
    simp only [ho] at h
    split at h
    · rename_i g l hfi hpt
      have hfi' : first = #[] := by cases first; simp_all
      subst hfi'
      refine ⟨_, val_mk fun ρ a he => ?_, h⟩
      have hr := ptrsOf_R hpt (RL.evs' (ρ := ρ) (a := a) caps.toList fun x hx => he x (by rw [ho]; simp only [Op.operands]; simpa using hx))
      refine ⟨.func (.func g) #[] (caps.toList.map a.eval).toArray, R_c hr, fun w => ?_⟩
      simp only [execOp, ho]
      have e : caps.map a.eval = (caps.toList.map a.eval).toArray := by
        apply Array.ext'; simp
      rw [e, show Array.map a.eval #[] = #[] from by simp]
      rfl
    · exact val_gen (by simp [ho]) h
  | call c =>
    simp only [ho] at h
    cases hc : c.callee with
    | value f =>
      simp only [hc] at h
      have hmemf : f ∈ o.op.operands := by simp [ho, Op.operands, Call.operands, hc]
      have hmema : ∀ x ∈ c.args.toList, x ∈ o.op.operands := fun x hx => by
        rw [ho]; simp only [Op.operands, Call.operands, hc]
        exact Array.mem_append.2 (.inr (by simpa using hx))
      split at h
      · rename_i g first caps hfe
        cases hx : extX Γ g (first.toList.map .v ++ c.args.toList.map (ev st.tm) ++ caps.toList.map .v) (fun v => K (.v v) st.hp) with
        | some p =>
          simp only [hx] at h
          obtain ⟨v, hkv, hrun⟩ := extX_run hΓ hx h
          refine ⟨.v v, val_mk fun ρ a he => ⟨v, R_v _, fun w => ?_⟩, hkv⟩
          have hf := he f hmemf
          rw [hfe] at hf
          have hf : a.eval f = .func (.func g) first caps := hf
          have hr := hrun (RL.append (RL.append (RL.vals (ρ := ρ) first.toList) (RL.evs' c.args.toList fun x hx => he x (hmema x hx))) (RL.vals caps.toList)) w
          have e : (first.toList ++ c.args.toList.map a.eval ++ caps.toList).toArray = first ++ c.args.map a.eval ++ caps := by
            apply Array.ext'; simp
          rw [e] at hr
          exact run_call_ext ho hc hf hr
        | none =>
        simp only [hx] at h
        refine val_call hΓ hΦ h fun ρ a he => ?_
        have hf := he f hmemf
        rw [hfe] at hf
        have hf : a.eval f = .func (.func g) first caps := hf
        exact ⟨_, first ++ c.args.map a.eval ++ caps, RL.append (RL.append (RL.vals (ρ := ρ) first.toList) (RL.evs' c.args.toList fun x hx => he x (hmema x hx))) (RL.vals caps.toList), by apply Array.ext'; simp, fun hg w => run_call ho hc hf hg w⟩
      · rename_i g l hfe
        refine val_call hΓ hΦ h fun ρ a he => ?_
        have hf := he f hmemf
        rw [hfe] at hf
        obtain ⟨r, hr, hf⟩ := hf
        exact ⟨_, #[] ++ c.args.map a.eval ++ r.toArray, RL.append (RL.evs' c.args.toList fun x hx => he x (hmema x hx)) (RL.ptrs hr), by apply Array.ext'; simp, fun hg w => run_call ho hc hf hg w⟩
      · exact h.elim
    | builtin b =>
      simp only [hc] at h
      have hmema : ∀ x ∈ c.args.toList, x ∈ o.op.operands := fun x hx => by
        rw [ho]; simp only [Op.operands, Call.operands, hc]
        exact Array.mem_append.2 (.inr (by simpa using hx))
      have hb : isApp b = false := by simpa [ho, heapOp, isAppC, hc] using hno
      simp only [hb, cond_false] at h
      split at h
      · rename_i n hn
        refine ⟨_, val_mk fun ρ a he => ⟨.int .i64 n, R_v _, fun w => ?_⟩, h⟩
        rw [run_builtin ho hc w]
        exact lenX_run hn (RL.evs' (ρ := ρ) c.args.toList fun x hx => he x (hmema x hx)) _ _ w
      · exact val_gen (by simp [ho]) h
    | invoke r m => simp only [hc] at h
  | indexAddr t x i =>
    simp only [ho] at h
    have hx : x ∈ o.op.operands := by simp [ho, Op.operands]
    have hi : i ∈ o.op.operands := by simp [ho, Op.operands]
    rcases indexX_val h with h | ⟨α, h, hα⟩
    · exact val_gen (by simp [ho]) h
    · refine ⟨α, val_mk fun ρ a he => ?_, h⟩
      obtain ⟨v, hv, hrun⟩ := hα ρ _ _ (he x hx) (he i hi)
      exact ⟨v, hv, fun w => by simp only [execOp, ho, Sem.run_bind, hrun w, Result.andThen_ok]; rfl⟩
  | binOp op t x y yt =>
    simp only [ho] at h
    have hxm : x ∈ o.op.operands := by simp [ho, Op.operands]
    have hym : y ∈ o.op.operands := by simp [ho, Op.operands]
    unfold binX at h
    split at h
    · rename_i k p k' q e1 e2
      by_cases hkk : k = k'
      · subst hkk
        simp only [decide_true, cond_true] at h
        have hq := bcase_iff.1 h
        have hq0 : q ≠ 0 := fun e => (hq.1 (by simp [e])).elim
        refine ⟨_, val_mk fun ρ a he => ⟨_, R_v _, fun w => ?_⟩, hq.2 (by simpa using hq0)⟩
        have hx := he x hxm; rw [e1] at hx; have hx : a.eval x = .int k p := hx
        have hy := he y hym; rw [e2] at hy; have hy : a.eval y = .int k q := hy
        simp only [execOp, ho, hx, hy, binOp, Op.intDiv, eqGuard]
        simp [hq0]
      · simp [hkk] at h
    · rename_i k p k' q e1 e2
      by_cases hkk : k = k'
      · subst hkk
        simp only [decide_true, cond_true] at h
        have hq := bcase_iff.1 h
        have hq0 : q ≠ 0 := fun e => (hq.1 (by simp [e])).elim
        refine ⟨_, val_mk fun ρ a he => ⟨_, R_v _, fun w => ?_⟩, hq.2 (by simpa using hq0)⟩
        have hx := he x hxm; rw [e1] at hx; have hx : a.eval x = .int k p := hx
        have hy := he y hym; rw [e2] at hy; have hy : a.eval y = .int k q := hy
        simp only [execOp, ho, hx, hy, binOp, Op.intDiv, eqGuard]
        simp [hq0]
      · simp [hkk] at h
    · rename_i k p k' q e1 e2
      by_cases hkk : k = k'
      · subst hkk
        simp only [decide_true, cond_true] at h
        refine ⟨_, val_mk fun ρ a he => ⟨_, R_v _, fun w => ?_⟩, h⟩
        have hx := he x hxm; rw [e1] at hx; have hx : a.eval x = .int k p := hx
        have hy := he y hym; rw [e2] at hy; have hy : a.eval y = .int k q := hy
        simp only [execOp, ho, hx, hy, binOp, Op.intBits, eqGuard]
        simp [andI]
      · simp [hkk] at h
    · rename_i k p k' q e1 e2
      by_cases hkk : k = k'
      · subst hkk
        simp only [decide_true, cond_true] at h
        refine ⟨_, val_mk fun ρ a he => ⟨_, R_v _, fun w => ?_⟩, h⟩
        have hx := he x hxm; rw [e1] at hx; have hx : a.eval x = .int k p := hx
        have hy := he y hym; rw [e2] at hy; have hy : a.eval y = .int k q := hy
        simp only [execOp, ho, hx, hy, binOp, Op.intBits, eqGuard]
        simp [orI]
      · simp [hkk] at h
    · rename_i k p k' q e1 e2
      have hq := bcase_iff.1 h
      have hq0 : ¬ q < 0 := fun e => (hq.1 (by simpa using e)).elim
      refine ⟨_, val_mk fun ρ a he => ⟨_, R_v _, fun w => ?_⟩, hq.2 (by simpa using hq0)⟩
      have hx := he x hxm; rw [e1] at hx; have hx : a.eval x = .int k p := hx
      have hy := he y hym; rw [e2] at hy; have hy : a.eval y = .int k' q := hy
      simp only [execOp, ho, hx, hy, binOp, Op.shift, eqGuard]
      simp [hq0]
    · rename_i k p k' q e1 e2
      have hq := bcase_iff.1 h
      have hq0 : ¬ q < 0 := fun e => (hq.1 (by simpa using e)).elim
      refine ⟨_, val_mk fun ρ a he => ⟨_, R_v _, fun w => ?_⟩, hq.2 (by simpa using hq0)⟩
      have hx := he x hxm; rw [e1] at hx; have hx : a.eval x = .int k p := hx
      have hy := he y hym; rw [e2] at hy; have hy : a.eval y = .int k' q := hy
      simp only [execOp, ho, hx, hy, binOp, Op.shift, eqGuard]
      simp [hq0]
    · rename_i p q e1 e2
      split at h
      · rename_i r hr
        refine ⟨_, val_mk fun ρ a he => ⟨_, R_v _, fun w => ?_⟩, h⟩
        have hx := he x hxm; rw [e1] at hx; have hx : a.eval x = .agg p := hx
        have hy := he y hym; rw [e2] at hy; have hy : a.eval y = .agg q := hy
        simp only [execOp, ho, hx, hy]
        rw [Sem.run_bind, (eqlX_run hr x y w).1]
        rfl
      · exact h.elim
    · rename_i p q e1 e2
      split at h
      · rename_i r hr
        refine ⟨_, val_mk fun ρ a he => ⟨_, R_v _, fun w => ?_⟩, h⟩
        have hx := he x hxm; rw [e1] at hx; have hx : a.eval x = .agg p := hx
        have hy := he y hym; rw [e2] at hy; have hy : a.eval y = .agg q := hy
        simp only [execOp, ho, hx, hy]
        rw [Sem.run_bind, (eqlX_run hr x y w).2]
        rfl
      · exact h.elim
    · rename_i p q e1 e2
      have hq := bcase_iff.1 h
      have hq0 : ¬ (((p.size + q.size : Nat) : Int) > IntKind.i64.max) := fun e => (hq.1 (by unfold tooLong; simpa using e)).elim
      refine ⟨_, val_mk fun ρ a he => ⟨_, R_v _, fun w => ?_⟩, hq.2 (by unfold tooLong; simpa using hq0)⟩
      have hx := he x hxm; rw [e1] at hx; have hx : a.eval x = .string p := hx
      have hy := he y hym; rw [e2] at hy; have hy : a.eval y = .string q := hy
      simp only [execOp, ho, hx, hy, binOp, Op.stringOp, eqGuard]
      rw [if_neg hq0]
      rfl
    · exact val_gen (by simp [ho]) h
  | select cs b => simp only [ho] at h
  | _ =>
    simp only [ho] at h
    rcases valOp_val h with h | ⟨α, h, hα⟩
    · exact val_gen (by simp [ho]) h
    · exact ⟨α, val_mk fun ρ a he => hα ρ a he, h⟩
def rowCall (Γ : List (FuncId × CSpec)) (tm : List AV) (c : Call) : Option (FuncId × RSpec) :=
  match c.callee with
  | .value f =>
    match ev tm f with
    | .v (.func (.func g) first caps) => (match first.toList, caps.toList, spec Γ g with | [], [], some (.r s) => some (g, s) | _, _, _ => none)
    | _ => none
  | _ => none
theorem rowCall_iff {Γ : List (FuncId × CSpec)} {tm : List AV} {c : Call} {g : FuncId} {s : RSpec} (h : rowCall Γ tm c = some (g, s)) : ∃ f, c.callee = .value f ∧ ev tm f = .v (.func (.func g) #[] #[]) ∧ spec Γ g = some (.r s) := by
  unfold rowCall at h
  split at h
  · rename_i f hf
    split at h
    · rename_i g' first caps hev
      split at h
      · rename_i h1 h2 hs
        cases h
        refine ⟨f, hf, ?_, hs⟩
        have e1 : first = #[] := Array.ext' h1
        have e2 : caps = #[] := Array.ext' h2
        rw [hev, e1, e2]
      · cases h
    · cases h
  · cases h
def wCall (Γ : List (FuncId × CSpec)) (tm : List AV) (c : Call) : Option (FuncId × WSpec) :=
  match c.callee with
  | .value f =>
    match ev tm f with
    | .v (.func (.func g) first caps) => (match first.toList, caps.toList, spec Γ g with | [], [], some (.w s) => some (g, s) | _, _, _ => none)
    | _ => none
  | _ => none
theorem wCall_iff {Γ : List (FuncId × CSpec)} {tm : List AV} {c : Call} {g : FuncId} {s : WSpec} (h : wCall Γ tm c = some (g, s)) : ∃ f, c.callee = .value f ∧ ev tm f = .v (.func (.func g) #[] #[]) ∧ spec Γ g = some (.w s) := by
  unfold wCall at h
  split at h
  · rename_i f hf
    split at h
    · rename_i g' first caps hev
      split at h
      · rename_i h1 h2 hs
        cases h
        refine ⟨f, hf, ?_, hs⟩
        have e1 : first = #[] := Array.ext' h1
        have e2 : caps = #[] := Array.ext' h2
        rw [hev, e1, e2]
      · cases h
    · cases h
  · cases h
def oCall (Γ : List (FuncId × CSpec)) (tm : List AV) (c : Call) : Option (FuncId × OSpec) :=
  match c.callee with
  | .value f =>
    match ev tm f with
    | .v (.func (.func g) first caps) => (match first.toList, caps.toList, spec Γ g with | [], [], some (.o s) => some (g, s) | _, _, _ => none)
    | _ => none
  | _ => none
theorem oCall_iff {Γ : List (FuncId × CSpec)} {tm : List AV} {c : Call} {g : FuncId} {s : OSpec} (h : oCall Γ tm c = some (g, s)) : ∃ f, c.callee = .value f ∧ ev tm f = .v (.func (.func g) #[] #[]) ∧ spec Γ g = some (.o s) := by
  unfold oCall at h
  split at h
  · rename_i f hf
    split at h
    · rename_i g' first caps hev
      split at h
      · rename_i h1 h2 hs
        cases h
        refine ⟨f, hf, ?_, hs⟩
        have e1 : first = #[] := Array.ext' h1
        have e2 : caps = #[] := Array.ext' h2
        rw [hev, e1, e2]
      · cases h
    · cases h
  · cases h
def knownR (hp : List Blk) : List Nat → List (Nat × Blk)
  | [] => []
  | k :: ks => match hp[k]? with | some b => (k, b) :: knownR hp ks | none => knownR hp ks
def knownKs (hp : List Blk) : List Nat → List Nat
  | [] => []
  | k :: ks => match hp[k]? with | some _ => k :: knownKs hp ks | none => knownKs hp ks
theorem knownR_ks {hp : List Blk} : ∀ {ks : List Nat}, (knownR hp ks).map (·.1) = knownKs hp ks
  | [] => rfl
  | k :: ks => by
    unfold knownR knownKs
    cases hp[k]? with
    | none => exact knownR_ks
    | some b => simp [knownR_ks (ks := ks)]
theorem knownR_iff {hp : List Blk} : ∀ {ks : List Nat} {q : Nat × Blk}, q ∈ knownR hp ks → hpF hp q.1 = some q.2
  | [], _, h => by cases h
  | k :: ks, q, h => by
    unfold knownR at h
    cases hb : hp[k]? with
    | none => rw [hb] at h; exact knownR_iff h
    | some b =>
      rw [hb] at h
      rcases List.mem_cons.1 h with rfl | h
      · exact hb
      · exact knownR_iff h
theorem knownR_mem {hp : List Blk} : ∀ {ks : List Nat} {k : Nat} {b : Blk}, k ∈ ks → hp[k]? = some b → (k, b) ∈ knownR hp ks
  | [], _, _, h, _ => by cases h
  | j :: ks, k, b, h, hb => by
    unfold knownR
    rcases List.mem_cons.1 h with rfl | h
    · rw [hb]; exact List.mem_cons_self ..
    · cases hp[j]? with
      | none => exact knownR_mem h hb
      | some c => exact List.mem_cons_of_mem _ (knownR_mem h hb)
def destD (hp : List Blk) (e : TypeId) (sz : Nat) (z : Value) (d : AV) (K : (t : ET) → List t.ty → Bool → List (Nat × Blk) → List Blk → Prop) : Prop :=
  match d with
  | .v (.slice none 0 0) => (match encOf z.cells.toList with | some t => bif Nat.beq t.enc.z sz then K t [] false [] hp else False | none => False)
  | .rs k n => (match hp[k]? with | some b => (match b.row with | some r => bif isMine b && (Nat.beq b.T e && (Nat.beq r.E.z sz && r.held)) then n = r.xs.length ∧ K r.t r.xs true [(k, b)] (bset hp k deadB) else False | none => False) | none => False)
  | .os k n => (match hp[k]? with | some b => (match b.row with | some r => bif isMine b && (Nat.beq b.T e && Nat.beq r.E.z sz) then n = r.xs.length ∧ K r.t r.xs false [(k, b)] (bset hp k deadB) else False | none => False) | none => False)
  | _ => False
structure DestH (B : Nat) (w0 w : World) (ρ : Nat → Option Nat) (H : Nat → Option Blk) (e : TypeId) (sz : Nat) (v : Value) (t : ET) (xs : List t.ty) (held : Bool) : Prop where
  z : t.enc.z = sz
  own : w.ownsRow B e sz v xs.length (xs.flatMap t.enc.enc)
  rel : Rel B w0 ρ H w
  base : ∀ g, v.ownBlock = some g → B ≤ g
  free : ∀ j g x, v.ownBlock = some g → ρ j = some g → H j = some x → ¬ x.live
  notnil : held = true → v ≠ .slice none 0 0
  nil : held = false → xs.length = 0 → v = .slice none 0 0
theorem killL_nil (H : Nat → Option Blk) : killL H [] = H := by funext i; unfold killL; rw [if_neg (by simp)]
theorem killL_one (H : Nat → Option Blk) (k : Nat) (b : Blk) : killL H [(k, b)] = upd H k deadB := by
  funext i
  unfold killL upd
  simp
theorem freeH_of {H : Nat → Option Blk} (h : Rel B w0 ρ H w) {k g : Nat} {b : Blk} (hb : H k = some b) (hl : b.live) (ho : b.own = some true) (hρ : ρ k = some g) :
    ∀ j x, ρ j = some g → upd H k deadB j = some x → ¬ x.live := fun j x p2 p3 p4 => by
  unfold upd at p3
  by_cases hj : j = k
  · rw [if_pos hj] at p3
    cases p3
    exact p4.1 rfl
  · rw [if_neg hj] at p3
    exact hj (h.inj j k g x b p2 hρ p3 hb p4 hl ho)
theorem destD_run {hp : List Blk} {e : TypeId} {sz : Nat} {z : Value} {d : AV} {K : (t : ET) → List t.ty → Bool → List (Nat × Blk) → List Blk → Prop} (hd : destD hp e sz z d K) :
    ∃ t xs held ks hp', K t xs held ks hp' ∧ (∀ q ∈ ks, hp[q.1]? = some q.2) ∧ hp'.length = hp.length ∧ hpF hp' = killL (hpF hp) ks ∧
      ∀ {w : World} {ρ : Nat → Option Nat} {H : Nat → Option Blk} {v : Value}, Rel B w0 ρ H w → (∀ q ∈ ks, H q.1 = some q.2) → d.R ρ v → DestH B w0 w ρ (killL H ks) e sz v t xs held := by
  unfold destD at hd
  split at hd
  · split at hd
    · rename_i t _
      cases hz : Nat.beq t.enc.z sz with
      | false => simp [hz] at hd
      | true =>
        simp only [hz, cond_true] at hd
        refine ⟨t, [], false, [], hp, hd, (fun q hq => by cases hq), rfl, (killL_nil _).symm, fun {w ρ H v} h _ hr => ?_⟩
        have hr : v = .slice none 0 0 := hr
        subst hr
        rw [killL_nil]
        exact ⟨Nat.eq_of_beq_eq_true hz, w.ownsRow_nil B e sz, h, fun g hg => (by cases hg), fun j g x q => (by cases q), (fun q => by cases q), fun _ _ => rfl⟩
    · exact hd.elim
  · rename_i k n
    split at hd
    · rename_i b hb
      split at hd
      · rename_i r hw
        cases hs : (isMine b && (Nat.beq b.T e && (Nat.beq r.E.z sz && r.held))) with
        | false => simp [hs] at hd
        | true =>
          simp only [hs, cond_true] at hd
          simp only [Bool.and_eq_true] at hs
          obtain ⟨q1, q2, q3, q4⟩ := hs
          have q1 := isMine_iff q1
          have q2 := Nat.eq_of_beq_eq_true q2
          have q3 := Nat.eq_of_beq_eq_true q3
          obtain ⟨rfl, hd⟩ := hd
          subst q2
          have q3' : r.t.enc.z = sz := q3
          subst q3'
          refine ⟨r.t, r.xs, true, [(k, b)], _, hd, (fun q hq => by rw [List.mem_singleton.1 hq]; exact hb), bset_length _ _ _, by rw [killL_one]; exact hpF_bset hp hb _, fun {w ρ H v} h hH hr => ?_⟩
          have hb' : H k = some b := hH _ (List.mem_singleton.2 rfl)
          obtain ⟨hown, hblk⟩ := h.owns (k := k) (b := b) (r := r) hb' q1 hw (v := v) (a := AV.rs k r.xs.length) (.inl ⟨rfl, .inl q4⟩) hr
          have hkill := h.kill (k := k) (b := b) hb'
          have hl : b.live := ⟨by rw [q1]; simp, fun r' e' => by rw [hw] at e'; cases e'; exact .inl q4⟩
          rw [killL_one]
          refine ⟨rfl, hown, hkill, fun g hg => (hblk g hg).1, fun j g x p1 p2 p3 => freeH_of h hb' hl q1 (hblk g p1).2 j x p2 p3, fun _ e => ?_, fun q => by cases q⟩
          obtain ⟨m, c, _, _, e'⟩ := hr
          rw [e] at e'
          cases e'
      · exact hd.elim
    · exact hd.elim
  · rename_i k n
    split at hd
    · rename_i b hb
      split at hd
      · rename_i r hw
        cases hs : (isMine b && (Nat.beq b.T e && Nat.beq r.E.z sz)) with
        | false => simp [hs] at hd
        | true =>
          simp only [hs, cond_true] at hd
          simp only [Bool.and_eq_true] at hs
          obtain ⟨q1, q2, q3⟩ := hs
          have q1 := isMine_iff q1
          have q2 := Nat.eq_of_beq_eq_true q2
          have q3 := Nat.eq_of_beq_eq_true q3
          obtain ⟨rfl, hd⟩ := hd
          subst q2
          have q3' : r.t.enc.z = sz := q3
          subst q3'
          refine ⟨r.t, r.xs, false, [(k, b)], _, hd, (fun q hq => by rw [List.mem_singleton.1 hq]; exact hb), bset_length _ _ _, by rw [killL_one]; exact hpF_bset hp hb _, fun {w ρ H v} h hH hr => ?_⟩
          have hb' : H k = some b := hH _ (List.mem_singleton.2 rfl)
          obtain ⟨hown, hblk⟩ := h.owns (k := k) (b := b) (r := r) hb' q1 hw (v := v) (a := AV.os k r.xs.length) (.inr rfl) hr
          have hkill := h.kill (k := k) (b := b) hb'
          have hr' : (AV.os k r.xs.length).R ρ v := hr
          rw [killL_one]
          refine ⟨rfl, hown, hkill, fun g hg => (hblk g hg).1, fun j g x p1 p2 p3 => ?_, (fun q => by cases q), fun _ q => hr'.1 q⟩
          have hl : b.live := ⟨by rw [q1]; simp, fun r' e' => by
            rw [hw] at e'
            cases e'
            refine .inr (fun e0 => ?_)
            rw [hr'.1 (by rw [e0]; rfl)] at p1
            cases p1⟩
          exact freeH_of h hb' hl q1 (hblk g p1).2 j x p2 p3
      · exact hd.elim
    · exact hd.elim
  · exact hd.elim
theorem appH_run {t e : TypeId} {i : TypeInfo} {z : Value} (he : elemOf P t = some (e, i, z)) (g2 : 0 < i.size) (g3 : z.cells.size = i.size) {H : Nat → Option Blk} {te : ET} {xs : List te.ty} {held : Bool} {dv sv : Value} (D : DestH B w0 w ρ H e i.size dv te xs held)
    {m : Nat} {ys : List te.ty} {pos : Bool} (hym : ys.length = m) (hpos : pos = true → 0 < m) (hH : Holds w sv e te ys) (hcap : capOk (xs.length + m) i.bytes = true) {n0 : Nat} (hn0 : H n0 = none) (hn1 : H (n0 + 1) = none) (ty : TypeId) (cs : Array Bool) :
    ∃ w' ρ' v', Ext ρ ρ' ∧ Rel B w0 ρ' (updL H n0 [⟨e, [], some true, some ⟨te, xs ++ ys, held || pos⟩⟩, deadB]) w' ∧ (bif held || pos then AV.rs n0 (xs.length + m) else .os n0 (xs.length + m)).R ρ' v' ∧
      (builtin .append #[t, t] ty cs #[dv, sv]).run P w = .ok (.value v') w' := by
  obtain ⟨dz, down, drel, dbase, dfree, dnn, dnil⟩ := D
  rw [updL_two]
  have dz' : i.size = te.enc.z := dz.symm
  rw [dz'] at down
  have hlen' : (xs ++ ys).length = xs.length + m := by rw [List.length_append, hym]
  have hval : Row.vals ⟨te, xs ++ ys, held || pos⟩ = xs.flatMap te.enc.enc ++ ys.flatMap te.enc.enc := List.flatMap_append
  have he' := he
  unfold elemOf at he'
  split at he'
  · rename_i e' hu
    split at he'
    · rename_i i' hi
      split at he'
      · rename_i z' hz'
        cases he'
        by_cases hm : m = 0
        · obtain ⟨a0, c0, rfl⟩ := hH.zero (by omega)
          subst hm
          have hy0 : ys = [] := List.eq_nil_of_length_eq_zero hym
          subst hy0
          have hp0 : pos = false := by
            cases pos with
            | false => rfl
            | true => have := hpos rfl; omega
          subst hp0
          have hrun : (builtin .append #[t, t] ty cs #[dv, .slice a0 0 c0]).run P w = .ok (.value dv) w := by
            unfold builtin
            have := run_append_zero (P := P) w B t ty e _ te.enc.z hu hi dv xs.length _ down a0 c0
            simp only [Sem.run_bind]
            rw [this]
            rfl
          simp only [List.append_nil, Nat.add_zero, Bool.or_false]
          by_cases hnil : dv = .slice none 0 0
          · have hf : held = false := by
              cases held with
              | false => rfl
              | true => exact absurd hnil (dnn rfl)
            subst hf
            have hx0 : xs.length = 0 := by
              rcases down.2 with ⟨_, q⟩ | ⟨g, cap, cur, q, _⟩
              · exact q
              · rw [q] at hnil; cases hnil
            have hxs : xs = [] := List.eq_nil_of_length_eq_zero hx0
            have hN := drel.note (k := n0 + 1) hn1 0
            have hk' : upd H (n0 + 1) deadB n0 = none := by unfold upd; rw [if_neg (by omega)]; exact hn0
            have hN2 := hN.noteB (k := n0) hk' 0 (b := ⟨e, [], some true, some ⟨te, xs, false⟩⟩) (fun l => by
              rcases l.2 _ rfl with q | q
              · cases q
              · exact q hxs)
            have hext := (Ext.new (drel.dom (n0 + 1) hn1) 0).trans (Ext.new (hN.dom _ hk') 0)
            exact ⟨w, _, dv, hext, hN2, ⟨fun _ => hnil, fun q => absurd hx0 q⟩, hrun⟩
          · obtain ⟨ρ', h1', h2', h3'⟩ := drel.addRow (k := n0) hn0 hn1 (T := e) (r := ⟨te, xs, held⟩) hnil down dfree
            refine ⟨w, ρ', dv, h1', h2', ?_, hrun⟩
            cases held with
            | true => exact h3'
            | false =>
              obtain ⟨m, c, q1, q2, q3⟩ := h3'
              exact ⟨fun q => absurd (dnil rfl q) hnil, fun _ => ⟨m, c, q1, q2, q3⟩⟩
        · obtain ⟨ad, c, rfl, hc⟩ := hH.cells (by omega)
          rw [hym]
          have hyl : (ys.flatMap te.enc.enc).length = m * i.size := by rw [flat_length, hym, dz]
          unfold capOk at hcap
          simp only [Bool.and_eq_true] at hcap
          have hb1 := Nat.le_of_ble_eq_true hcap.1
          have hb2 := Nat.le_of_ble_eq_true hcap.2
          rw [← dz'] at down
          have h1 : ∀ u ∈ ys.flatMap te.enc.enc, u.oneCell' = true := fun u hu => by
            have : u ∈ Row.vals ⟨te, xs ++ ys, held || pos⟩ := by rw [hval]; exact List.mem_append_right _ hu
            exact one_vals this
          obtain ⟨v', w', hrun, ho', hg, hnil⟩ := run_append_own (P := P) w B t ty e i z i.size i.bytes hu hi hz' rfl rfl g3 g2 dv xs.length _ down ad m c _ hyl hc h1 hb2 hb1 drel.base
          have hR' := drel.grown hg dbase (fun j g x q1 q2 q3 => dfree j g x q1 q2 q3) (fun j o q1 q2 => by
            rcases down.2 with ⟨rfl, _⟩ | ⟨g0, cap, cur, rfl, _, hg0, _⟩
            · cases q1
            · have e : g0 = j := by simpa [Value.ownBlock] using q1
              subst e
              rw [hg0] at q2
              cases q2
              rfl)
          have hnn : v' ≠ .slice none 0 0 := fun q => by have := (hnil.1 q).2; omega
          have ho'' : w'.ownsRow B e (Row.E ⟨te, xs ++ ys, held || pos⟩).z v' (Row.xs ⟨te, xs ++ ys, held || pos⟩).length (Row.vals ⟨te, xs ++ ys, held || pos⟩) := by
            show w'.ownsRow B e te.enc.z v' (xs ++ ys).length _
            rw [dz, hlen', hval]; exact ho'
          have hfree' : ∀ j g x, v'.ownBlock = some g → ρ j = some g → H j = some x → ¬ x.live := fun j g x q1 q2 q3 q4 => by
            rcases app_block hu hi hz' down (by omega) hyl hc h1 hb2 hb1 hrun q1 with q | q
            · exact dfree j g x q q2 q3 q4
            · have := drel.lt q2 q3 q4
              omega
          obtain ⟨ρ', h1', h2', h3'⟩ := hR'.addRow (k := n0) hn0 hn1 (T := e) (r := ⟨te, xs ++ ys, held || pos⟩) hnn ho'' hfree'
          have h3' : (AV.rs n0 (xs ++ ys).length).R ρ' v' := h3'
          rw [hlen'] at h3'
          refine ⟨w', ρ', v', h1', h2', ?_, ?_⟩
          · cases hq : (held || pos) with
            | true => exact h3'
            | false =>
              obtain ⟨m', c', q1, q2, q3⟩ := h3'
              exact ⟨fun q => by omega, fun _ => ⟨m', c', q1, q2, q3⟩⟩
          · unfold builtin
            simp only [Sem.run_bind, hrun, Result.andThen_ok]
            rfl
      · cases he'
    · cases he'
  · cases he'
def appD (P : Program) (c : Call) (st : AS) (K : AV → List Blk → List Nat × List Nat → Prop) : Prop :=
  match c.argTypes.toList, c.args.toList.map (ev st.tm) with
  | [t, t'], [d, s] =>
    match bif Nat.beq t t' then elemOf P t else none with
    | some (e, i, z) =>
      bif Nat.blt 0 i.size && Nat.beq z.cells.size i.size then
        destD st.hp e i.size z d fun te xs held ks hp' => srcY st.hp e te s fun m ys pos =>
          bcase (capOk (xs.length + m) i.bytes) (K (bif held || pos then .rs st.hp.length (xs.length + m) else .os st.hp.length (xs.length + m)) (hp' ++ [⟨e, [], some true, some ⟨te, xs ++ ys, held || pos⟩⟩, deadB])
            (Kd.fp (.app ks (knownR st.hp (avK1 s)) st.hp.length [deadB, deadB]))) False
      else False
    | none => False
  | _, _ => False
def writeD (s : WSpec) (args : List AV) (hp : List Blk) (K : AV → List Blk → List Nat × List Nat → Prop) : Prop :=
  match args with
  | [d, .v (.int .i64 i), .s k o n c] =>
    destD hp s.T s.t.enc.z undef d fun t xs _ ks hp' =>
      match decEq t s.t with
      | .isTrue h =>
        (match hp'[k]? with
        | some b =>
          (match b.row, vals b.cs with
          | none, some l => bif isMine b && (Nat.beq b.T s.T && (Nat.beq o 0 && (Nat.beq b.cs.length (c * s.t.enc.z) && Nat.ble n c))) then
              (match decs s.t.enc n l with
              | some ys => (match s.sp (castRow h xs) i ys with
                | some (p, zs) => p ∧ K (.rs hp.length zs.length) (hp' ++ [⟨s.T, [], some true, some ⟨s.t, zs, true⟩⟩, deadB]) (Kd.fp (.app ks (knownR hp [k]) hp.length [deadB, deadB]))
                | none => False)
              | none => False) else False
          | _, _ => False)
        | none => False)
      | .isFalse _ => False
  | _ => False
theorem writeH_run {Φ : World → Prop} {f : FuncId} {s : WSpec} (hs : CSpec.holds P Φ f (.w s)) {H : Nat → Option Blk} {dv : Value} {xs : List s.t.ty} {held : Bool} (D : DestH B w0 w ρ H s.T s.t.enc.z dv s.t xs held)
    {k n c : Nat} {b : Blk} {l : List Value} {sv : Value} (hsv : (AV.s k 0 n c).R ρ sv) (hb : H k = some b) (hr : b.row = none) (hv : vals b.cs = some l) (m1 : b.own = some true) (m2 : b.T = s.T) (m4 : b.cs.length = c * s.t.enc.z) (m5 : n ≤ c)
    {ys zs : List s.t.ty} {p : Prop} {i : Int} (hy : decs s.t.enc n l = some ys) (hsp : s.sp xs i ys = some (p, zs)) (hp1 : p) {n0 : Nat} (hn0 : H n0 = none) (hn1 : H (n0 + 1) = none) :
    Calls P f #[dv, .int .i64 i, sv] w fun e w' => ∃ ρ' v, e = .returned v ∧ Ext ρ ρ' ∧ Rel B w0 ρ' (updL H n0 [⟨s.T, [], some true, some ⟨s.t, zs, true⟩⟩, deadB]) w' ∧ (AV.rs n0 zs.length).R ρ' v := by
  obtain ⟨dz, down, drel, dbase, dfree, dnn, dnil⟩ := D
  rw [updL_two]
  obtain ⟨e1, e2⟩ := decs_back hy
  obtain ⟨v1, v2⟩ := vals_some hv
  obtain ⟨g, hg, rfl⟩ := hsv
  have hl : b.live := Blk.live_of m1 hr
  obtain ⟨_, cs, hL, hf⟩ := drel.blk k g b hg hb hl
  have h1 := hL.own m1
  unfold Blk.fit at hf
  rw [hr] at hf
  obtain ⟨f1, f2⟩ := hf
  have hcs : cs.toList = l := by
    apply List.ext_getElem?
    intro j
    by_cases hj : j < l.length
    · have := f2 j (by omega)
      rw [v2 j (by omega)] at this
      have this : cs.getD j undef = l.getD j undef := this
      have hj' : j < cs.size := by omega
      simp [List.getD, hj, hj'] at this ⊢
      exact this
    · rw [List.getElem?_eq_none (by rw [Array.length_toList]; omega), List.getElem?_eq_none (by omega)]
  have hne : dv.ownBlock ≠ some g := fun q => dfree k g b q hg hb hl
  rw [m2] at h1
  have hsz : cs.size = c * s.t.enc.z := by omega
  have hcall := hs _ i ys p zs hsp hp1 B w dv g c cs drel.base down hne h1 hsz (by omega) (by rw [hcs, ← e1, e2]; exact List.take_of_length_le (by rw [flat_length, e2]; exact Nat.le_refl _))
  rw [e2] at hcall
  refine hcall.mono ?_
  rintro e w' ⟨v', rfl, ho', hgr, hnn, hblk⟩
  have hR' := drel.grown hgr dbase (fun j g x q1 q2 q3 => dfree j g x q1 q2 q3) (fun j o q1 q2 => by
    rcases down.2 with ⟨rfl, _⟩ | ⟨g0, cap, cur, rfl, _, hg0, _⟩
    · cases q1
    · have e : g0 = j := by simpa [Value.ownBlock] using q1
      subst e
      rw [hg0] at q2
      cases q2
      rfl)
  have hfree' : ∀ j g x, v'.ownBlock = some g → ρ j = some g → H j = some x → ¬ x.live := fun j g x q1 q2 q3 q4 => by
    rcases hblk g q1 with q | q
    · exact dfree j g x q q2 q3 q4
    · have := drel.lt q2 q3 q4
      omega
  obtain ⟨ρ', h1', h2', h3'⟩ := hR'.addRow (k := n0) hn0 hn1 (T := s.T) (r := ⟨s.t, zs, true⟩) hnn ho' hfree'
  exact ⟨ρ', v', rfl, h1', h2', h3'⟩
def cloneD (s : OSpec) (args : List AV) (hp : List Blk) (K : AV → List Blk → List Nat × List Nat → Prop) : Prop :=
  match args with
  | [a] => srcY hp s.T s.t a fun m ys _ => (ys ≠ [] ∧ s.ok ys) ∧ K (.rs hp.length m) (hp ++ [⟨s.T, [], some true, some ⟨s.t, ys, true⟩⟩, deadB]) (Kd.fp (.call (knownR hp (avK1 a)) hp.length [deadB, deadB]))
  | _ => False
theorem cloneH_run {Φ : World → Prop} {f : FuncId} {s : OSpec} (hs : CSpec.holds P Φ f (.o s)) (hΦ : Φ w) {H : Nat → Option Blk} (h : Rel B w0 ρ H w) {v : Value} {ys : List s.t.ty} (hne : ys ≠ []) (hok : s.ok ys) (hH : Holds w v s.T s.t ys) {n0 : Nat} (hn0 : H n0 = none) (hn1 : H (n0 + 1) = none) :
    Calls P f #[v] w fun e w' => ∃ ρ' v, e = .returned v ∧ Ext ρ ρ' ∧ Rel B w0 ρ' (updL H n0 [⟨s.T, [], some true, some ⟨s.t, ys, true⟩⟩, deadB]) w' ∧ (AV.rs n0 ys.length).R ρ' v := by
  rw [updL_two]
  refine (hs ys hne hok w v hΦ hH).mono ?_
  rintro e w' ⟨v', rfl, hb, ho, hnn⟩
  have hR' := h.later hb
  have ho' : w'.ownsRow B s.T s.t.enc.z v' ys.length (ys.flatMap s.t.enc.enc) := ⟨ho.1, by
    rcases ho.2 with q | ⟨g, cap, cur, q1, q2, q3⟩
    · exact .inl q
    · exact .inr ⟨g, cap, cur, q1, Nat.le_trans h.base q2, q3⟩⟩
  have hfree' : ∀ j g x, v'.ownBlock = some g → ρ j = some g → H j = some x → ¬ x.live := fun j g x q1 q2 q3 q4 => by
    have := h.lt q2 q3 q4
    have := (ho.lt g q1).1
    omega
  obtain ⟨ρ', h1', h2', h3'⟩ := hR'.addRow (k := n0) hn0 hn1 (T := s.T) (r := ⟨s.t, ys, true⟩) hnn ho' hfree'
  exact ⟨ρ', v', rfl, h1', h2', h3'⟩
def capsV (hp : List Blk) : List (Nat × Nat) → Option (List (List Value))
  | [] => some []
  | (k, 0) :: l =>
    match hp[k]? with
    | some b =>
      match b.own, b.row, vals b.cs, capsV hp l with
      | some _, none, some c, some r => some (c :: r)
      | _, _, _, _ => none
    | none => none
  | (_, _ + 1) :: _ => none
def kCall (Γ : List (FuncId × CSpec)) (st : AS) (c : Call) : Option (Prop × Value × List Nat) :=
  match c.callee with
  | .value f =>
    match ev st.tm f with
    | .c g l =>
      match spec Γ g with
      | some (.k s) =>
        match vals (c.args.toList.map (ev st.tm)), capsV st.hp l with
        | some a, some cs => (match s a cs with | some (p, v) => some (p, v, l.map (·.1)) | none => none)
        | _, _ => none
      | _ => none
    | .v (.func (.func g) first caps) =>
      (match first.toList, caps.toList, spec Γ g with
      | [], [], some (.p s) => (match pArgs (c.args.toList.map (ev st.tm)) st.hp with | some (k, as, cl) => (match s as cl with | some (p, v) => some (p, v, [k]) | none => none) | none => none)
      | _, _, _ => none)
    | _ => none
  | _ => none
theorem RL_of : ∀ {l : List AV} {vs : List Value}, l.length = vs.length → (∀ o, o < l.length → (lget l o).R ρ (vs.getD o undef)) → RL ρ l vs
  | [], [], _, _ => trivial
  | [], _ :: _, h, _ => by simp at h
  | _ :: _, [], h, _ => by simp at h
  | a :: l, v :: vs, h, k => ⟨by have := k 0 (by simp); simpa [lget] using this, RL_of (by simpa using h) fun o ho => by have := k (o + 1) (by simpa using ho); simpa [lget] using this⟩
theorem capsV_caps {H : Nat → Option Blk} {hp : List Blk} (hR : Rel B w0 ρ H w) : ∀ {l : List (Nat × Nat)} {cs : List (List Value)} {r : List Value}, capsV hp l = some cs → ptrs ρ l = some r →
    (∀ k ∈ l.map (·.1), ∀ b, hp[k]? = some b → H k = some b) → Caps w r cs
  | [], cs, r, h, hr, _ => by
    simp only [capsV, Option.some.injEq] at h
    simp only [ptrs, Option.some.injEq] at hr
    subst h hr
    trivial
  | (k, 0) :: l, cs, r, h, hr, hH => by
    simp only [capsV] at h
    cases hb : hp[k]? with
    | none => simp [hb] at h
    | some b =>
      simp only [hb] at h
      split at h
      · rename_i o c r' ho hrow hv hrest
        cases h
        simp only [ptrs] at hr
        cases e1 : ρ k with
        | none => simp [e1] at hr
        | some n =>
          cases e2 : ptrs ρ l with
          | none => simp [e1, e2] at hr
          | some r2 =>
            simp only [e1, e2, Option.some.injEq] at hr
            subst hr
            have hHk := hH k (by simp) b hb
            have hlive : b.live := Blk.live_of ho hrow
            obtain ⟨_, cs', ⟨T, fz, hw, _⟩, hf⟩ := hR.blk k n b e1 hHk hlive
            refine ⟨⟨n, T, fz, rfl, ?_⟩, capsV_caps hR hrest e2 fun k' hk' b' hb' => hH k' (by simp only [List.map_cons, List.mem_cons]; exact .inr hk') b' hb'⟩
            unfold Blk.fit at hf
            rw [hrow] at hf
            have e := vals_R hv (RL_of (ρ := ρ) (l := b.cs) (vs := cs'.toList) (by simpa using hf.1.symm) fun o ho' => by
              have := hf.2 o ho'
              simpa [Array.getD_eq_getD_getElem?, List.getD] using this)
            rw [hw, ← e]
      · cases h
  | (k, o + 1) :: l, cs, r, h, _, _ => by simp [capsV] at h
def dopX (P : Program) (Γ : List (FuncId × CSpec)) (o : Oper) (st : AS) (K : AV → List Blk → List Nat × List Nat → Prop) : Prop :=
  match o.op with
  | .alloc T => match P.info? T with | some i => (match i.zero with | some z => K (.p st.hp.length 0) (st.hp ++ [⟨T, z.cells.toList.map .v, some true, none⟩]) ([st.hp.length], [st.hp.length]) | none => False) | none => False
  | .box T x => match cellsOf (ev st.tm x) with | some l => K (.p st.hp.length 0) (st.hp ++ [⟨T, l, some true, none⟩]) ([st.hp.length], [st.hp.length]) | none => False
  | .load t x => match ev st.tm x with | .p k i => (match loadX P st.hp t k i with | some a => K a st.hp ([k], []) | none => False) | .e k j z f => (match st.hp[k]? with | some b => loadE P b t j z f fun a => K a st.hp ([k], []) | none => False) | .fe k j z f => (match st.hp[k]? with | some b => loadF P b t j z f fun a => K a st.hp ([k], []) | none => False) | _ => False
  | .store t x y => match ev st.tm x with | .p k i => (match storeX P st.hp t k i (ev st.tm y) with | some hp => K (.v undef) hp ([k], [k]) | none => False) | .e k j z f => (match st.hp[k]? with | some b => storeE P b t j z f (ev st.tm y) fun b' => K (.v undef) (bset st.hp k b') ([k], [k]) | none => False) | _ => False
  | .buildSlice t len parts => match partsX P t len parts st.tm with | some (e, cells) => K (.s st.hp.length 0 len len) (st.hp ++ [⟨e, cells.toList.map .v, some true, none⟩]) ([st.hp.length], [st.hp.length]) | none => False
  | .makeSlice _ _ _ => False
  | .convert s d x => convX P st.hp s d (ev st.tm x) (fun a hp new => K a hp (bif new then ([st.hp.length, st.hp.length + 1], [st.hp.length, st.hp.length + 1]) else (knownKs st.hp (avK1 (ev st.tm x)), []))) (gen P o st fun a hp => K a hp ([], []))
  | .call c =>
    bif isAppC c then appD P c st K else
    match kCall Γ st c with
    | some (p, v, ks) => p ∧ K (.v v) st.hp (knownKs st.hp ks, [])
    | none =>
    match rowCall Γ st.tm c with
    | some (g, s) => callR P st.hp g (c.args.toList.map (ev st.tm)) s (fun a l => K a (st.hp ++ l) (knownKs st.hp ((c.args.toList.map (ev st.tm)).flatMap avK) ++ List.range' st.hp.length l.length, List.range' st.hp.length l.length))
    | none =>
    match wCall Γ st.tm c with
    | some (g, s) => writeD s (c.args.toList.map (ev st.tm)) st.hp K
    | none =>
    match oCall Γ st.tm c with
    | some (g, s) => cloneD s (c.args.toList.map (ev st.tm)) st.hp K
    | none => opX P Γ (fun _ _ _ _ => False) false o st fun a hp => K a hp ([], [])
  | _ => opX P Γ (fun _ _ _ _ => False) false o st fun a hp => K a hp ([], [])
theorem dopX_sound {Φ : World → Prop} {Γ : List (FuncId × CSpec)} (hΓ : Sound P Φ Γ) (hΦ : ∀ w, Below B w0 w → B ≤ w.heap.size → Φ w) {ops : Array Oper} {o : Oper} {st : AS} {K : AV → List Blk → List Nat × List Nat → Prop}
    (h : dopX P Γ o st K) : ∃ α kd hp', Does P B w0 ops o st.tm α kd ∧ kd.on (hpF st.hp) ∧ kd.eff (hpF st.hp) = hpF hp' ∧ K α hp' kd.fp := by
  unfold dopX at h
  have other : heapOp o.op = false → opX P Γ (fun _ _ _ _ => False) false o st (fun a hp => K a hp ([], [])) → ∃ α kd hp', Does P B w0 ops o st.tm α kd ∧ kd.on (hpF st.hp) ∧ kd.eff (hpF st.hp) = hpF hp' ∧ K α hp' kd.fp := fun hn h => by
    obtain ⟨α, h1, h2⟩ := valX_sound (B := B) (w0 := w0) hΓ hΦ hn h
    exact ⟨α, .val [], st.hp, fun ρ a w H next Q hr hR _ hk => h1 ρ a w H next Q (fun x hx => hr.ev hx) hR hk, (fun q hq => by cases hq), rfl, h2⟩
  cases ho : o.op with
  | makeSlice t x y => simp only [ho] at h
  | convert s d x =>
    simp only [ho] at h
    unfold convX at h
    split at h
    · rename_i e hs hd
      split at h
      · rename_i he
        obtain ⟨m, ys, pos, hk', _, _, hh⟩ := srcY_run (B := B) (w0 := w0) h
        refine ⟨.v (.string (strV ys)), .val (knownR st.hp (avK1 (ev st.tm x))), st.hp, fun ρ a w H next Q hr hR hon hk => ?_, fun q hq => knownR_iff hq, rfl, by
          have : Kd.fp (.val (knownR st.hp (avK1 (ev st.tm x)))) = (knownKs st.hp (avK1 (ev st.tm x)), []) := by simp only [Kd.fp, Kd.reads, Kd.writes, knownR_ks]
          rw [this]
          exact hk'⟩
        have hx := hr.ev (x := x) (by simp [ho, Op.operands])
        have hrun := conv_str_run hs he hd (hh hR (fun k hk b hb => hon (k, b) (knownR_mem hk hb)) hx)
        refine upon_value' (v := .string (strV ys)) ?_ (hk _ _ w (Ext.refl ρ) (R_v _) hR)
        simp only [execOp, ho, Sem.run_bind, hrun, Result.andThen_ok]
        rfl
      · exact h.elim
    · rename_i e hs hd
      split at h
      · rename_i q he hq
        refine ⟨_, .call [] st.hp.length [⟨e, [], some false, some ⟨.int .u8, bytesV q, false⟩⟩, deadB], _, fun ρ a w H next Q hr hR hon hk => ?_, ⟨(fun q hq => by cases hq), fun i q1 q2 => List.getElem?_eq_none q1⟩, (hpF_updL _ _).symm, h⟩
        have hx := hr.ev (x := x) (by simp [ho, Op.operands])
        have hx' : a.eval x = .string q := by
          unfold strOf at hq
          split at hq
          · rename_i q' hq'
            cases hq
            rw [hq'] at hx
            exact hx
          · cases hq
        obtain ⟨v, w', ρ', hrun, e1, e2, e3⟩ := conv_bytes_run (P := P) hR (hon.2 st.hp.length (by omega) (by simp)) (hon.2 (st.hp.length + 1) (by omega) (by simp)) (x := q) hs hd he
        refine upon_value' (v := v) ?_ (hk ρ' v w' e1 e3 (by show Rel B w0 ρ' (updL H _ _) w'; rw [updL_two]; exact e2))
        simp only [execOp, ho, hx', Sem.run_bind, hrun, Result.andThen_ok]
        rfl
      · exact h.elim
    · obtain ⟨α, h1, h2⟩ := val_gen (B := B) (w0 := w0) (by simp [ho]) h
      exact ⟨α, .val [], st.hp, fun ρ a w H next Q hr hR _ hk => h1 ρ a w H next Q (fun x hx => hr.ev hx) hR hk, (fun q hq => by cases hq), rfl, h2⟩
  | call c =>
    simp only [ho] at h
    cases hb : isAppC c with
    | true =>
      simp only [hb, cond_true] at h
      obtain ⟨q, hc, hq⟩ : ∃ b, c.callee = .builtin b ∧ isApp b = true := by
        unfold isAppC at hb
        split at hb
        · exact ⟨_, by assumption, hb⟩
        · cases hb
      obtain rfl : q = .append := by cases q <;> simp_all [isApp]
      unfold appD at h
      split at h
      · rename_i t t' d s hts has
        have hts : c.argTypes = #[t, t'] := Array.ext' hts
        cases htt : Nat.beq t t' with
        | false => simp [htt] at h
        | true =>
          have htt' := Nat.eq_of_beq_eq_true htt
          subst htt'
          simp only [htt, cond_true] at h
          split at h
          · rename_i e i z he
            cases hg : (Nat.blt 0 i.size && Nat.beq z.cells.size i.size) with
            | false => simp [hg] at h
            | true =>
              simp only [hg, cond_true] at h
              simp only [Bool.and_eq_true] at hg
              have g2 : 0 < i.size := Nat.le_of_ble_eq_true hg.1
              have g3 := Nat.eq_of_beq_eq_true hg.2
              obtain ⟨te, xs, held, ks, hp', h, hks, hlen, hpk, hD⟩ := destD_run (B := B) (w0 := w0) h
              obtain ⟨m, ys, pos, h, hym, hpos, hH0⟩ := srcY_run (B := B) (w0 := w0) h
              obtain ⟨hcap, h⟩ := capOk_1 h
              refine ⟨_, .app ks (knownR st.hp (avK1 s)) st.hp.length [⟨e, [], some true, some ⟨te, xs ++ ys, held || pos⟩⟩, deadB], _, fun ρ a w H next Q hr hR hon hk => ?_, ⟨fun q hq => ?_, fun i q1 q2 => List.getElem?_eq_none q1⟩, ?_, h⟩
              · have hargs : RL ρ (c.args.toList.map (ev st.tm)) (c.args.toList.map a.eval) := RL.evs' c.args.toList fun x hx => hr.ev (by
                  rw [ho]; simp only [Op.operands, Call.operands, hc]
                  first | (exact Array.mem_append.2 (.inr (by simpa using hx))) | (simpa using hx))
                rw [has] at hargs
                have hrun0 := run_builtin (P := P) (a := a) ho hc w
                rw [hts] at hrun0
                generalize c.args.toList.map a.eval = vs at *
                match vs, hargs with
                | [dv, sv], hargs =>
                  obtain ⟨hd, hs', _⟩ := hargs
                  have D := hD hR (fun q hq => hon.1 q (List.mem_append_left _ hq)) hd
                  have hHs := hH0 hR (fun k hk b hb => hon.1 (k, b) (List.mem_append_right _ (knownR_mem hk hb))) hs'
                  have kn : ∀ j, st.hp.length ≤ j → j < st.hp.length + 2 → killL H ks j = none := fun j j1 j2 => by
                    unfold killL
                    rw [if_neg]
                    · exact hon.2 j j1 (by simpa using j2)
                    · intro q
                      obtain ⟨x, hx, rfl⟩ := List.mem_map.1 q
                      have := (List.getElem?_eq_some_iff.1 (hks x hx)).1
                      omega
                  obtain ⟨w', ρ', v', a1, a2, a3, a4⟩ := appH_run he g2 g3 D hym hpos hHs hcap (kn st.hp.length (by omega) (by omega)) (kn (st.hp.length + 1) (by omega) (by omega)) o.type (c.args.map fun | .const _ => true | _ => false)
                  exact upon_value' (by rw [hrun0]; exact a4) (hk ρ' v' w' a1 a3 a2)
              · rcases List.mem_append.1 hq with q1 | q1
                · exact hks q q1
                · exact knownR_iff q1
              · show updL (killL (hpF st.hp) ks) _ _ = _
                rw [hpF_updL, hlen, hpk]
          · exact h.elim
      · exact h.elim
    | false =>
      simp only [hb, cond_false] at h
      split at h
      · rename_i p v ks hkc
        unfold kCall at hkc
        split at hkc
        · rename_i f hf
          split at hkc
          · rename_i g l hev
            split at hkc
            · rename_i s hsp
              split at hkc
              · rename_i as cs hva hcv
                split at hkc
                · rename_i p' v' hs'
                  cases hkc
                  obtain ⟨hcl, hs⟩ := hΓ g _ hsp
                  refine ⟨.v v, .val (knownR st.hp (l.map (·.1))), st.hp, fun ρ a w H next Q hr hR hon hk => ?_, fun q hq => knownR_iff hq, rfl, by
                    have : Kd.fp (.val (knownR st.hp (l.map (·.1)))) = (knownKs st.hp (l.map (·.1)), []) := by simp only [Kd.fp, Kd.reads, Kd.writes, knownR_ks]
                    rw [this]
                    exact h.2⟩
                  have hmemf : f ∈ o.op.operands := by rw [ho]; simp [Op.operands, Call.operands, hf]
                  have hmema : ∀ x ∈ c.args.toList, x ∈ o.op.operands := fun x hx => by
                    rw [ho]; simp only [Op.operands, Call.operands, hf]
                    exact Array.mem_append.2 (.inr (by simpa using hx))
                  have hfe := hr.ev hmemf
                  rw [hev] at hfe
                  obtain ⟨r, hpr, hfe⟩ := hfe
                  have hargs : RL ρ (c.args.toList.map (ev st.tm)) (c.args.toList.map a.eval) := RL.evs' c.args.toList fun x hx => hr.ev (hmema x hx)
                  have hav := vals_R hva hargs
                  have hcaps := capsV_caps hR hcv hpr fun k hk b hb => hon (k, b) (knownR_mem hk hb)
                  unfold Oper.wp
                  rw [run_call ho hf hfe hcl w, Oper.upon_enter]
                  have e : #[] ++ c.args.map a.eval ++ r.toArray = (as ++ r).toArray := by
                    apply Array.ext'
                    simp [← hav]
                  rw [e]
                  refine (hs as cs p v hs' h.1 w r (hΦ w hR.below hR.base) hcaps).mono fun e w' hq => ?_
                  obtain ⟨rfl, hbel⟩ := hq
                  exact hk ρ v w' (Ext.refl ρ) rfl (hR.later hbel)
                · cases hkc
              · cases hkc
            · cases hkc
          · rename_i g first caps hev
            split at hkc
            · rename_i h1 h2 hsp
              split at hkc
              · rename_i k as cl hpa
                split at hkc
                · rename_i p' v' hs'
                  cases hkc
                  obtain ⟨hcl, hs⟩ := hΓ g _ hsp
                  refine ⟨.v v, .val (knownR st.hp [k]), st.hp, fun ρ a w H next Q hr hR hon hk => ?_, fun q hq => knownR_iff hq, rfl, by
                    have : Kd.fp (.val (knownR st.hp [k])) = (knownKs st.hp [k], []) := by simp only [Kd.fp, Kd.reads, Kd.writes, knownR_ks]
                    rw [this]
                    exact h.2⟩
                  have hmemf : f ∈ o.op.operands := by rw [ho]; simp [Op.operands, Call.operands, hf]
                  have hmema : ∀ x ∈ c.args.toList, x ∈ o.op.operands := fun x hx => by
                    rw [ho]; simp only [Op.operands, Call.operands, hf]
                    exact Array.mem_append.2 (.inr (by simpa using hx))
                  have hfe := hr.ev hmemf
                  rw [hev] at hfe
                  have e1 : first = #[] := Array.ext' h1
                  have e2 : caps = #[] := Array.ext' h2
                  subst e1 e2
                  have hfe : a.eval f = .func (.func g) #[] #[] := hfe
                  have hargs : RL ρ (c.args.toList.map (ev st.tm)) (c.args.toList.map a.eval) := RL.evs' c.args.toList fun x hx => hr.ev (hmema x hx)
                  obtain ⟨n, T, hvs, hw⟩ := pArgs_run hR hpa hargs fun b hb => hon (k, b) (knownR_mem (by simp) hb)
                  unfold Oper.wp
                  rw [run_call ho hf hfe hcl w, Oper.upon_enter]
                  have e : #[] ++ c.args.map a.eval ++ #[] = (Value.pointer (some ⟨n, 0, none⟩) :: as).toArray := by
                    apply Array.ext'
                    simpa using hvs
                  rw [e]
                  refine (hs as cl p v hs' h.1 w n T (hΦ w hR.below hR.base) hw).mono fun e w' hq => ?_
                  obtain ⟨rfl, hbel⟩ := hq
                  exact hk ρ v w' (Ext.refl ρ) rfl (hR.later hbel)
                · cases hkc
              · cases hkc
            · cases hkc
          · cases hkc
        · cases hkc
      split at h
      · rename_i g s hrc
        obtain ⟨f, hf, hev, hsp⟩ := rowCall_iff hrc
        obtain ⟨hcl, hs⟩ := hΓ g _ hsp
        obtain ⟨av, l, hk, hc⟩ := callR_val (B := B) (w0 := w0) hs h
        refine ⟨av, .call (knownR st.hp ((c.args.toList.map (ev st.tm)).flatMap avK)) st.hp.length l, _, fun ρ a w H next Q hr hR hon hk => ?_, ⟨fun q hq => knownR_iff hq, fun i q1 q2 => List.getElem?_eq_none q1⟩, (hpF_updL _ _).symm, by
          show K av (st.hp ++ l) _
          have : Kd.fp (.call (knownR st.hp ((c.args.toList.map (ev st.tm)).flatMap avK)) st.hp.length l) = (knownKs st.hp ((c.args.toList.map (ev st.tm)).flatMap avK) ++ List.range' st.hp.length l.length, List.range' st.hp.length l.length) := by
            simp only [Kd.fp, Kd.reads, Kd.writes, knownR_ks]
          rw [this]
          exact hk⟩
        have hmemf : f ∈ o.op.operands := by rw [ho]; simp [Op.operands, Call.operands, hf]
        have hmema : ∀ x ∈ c.args.toList, x ∈ o.op.operands := fun x hx => by
          rw [ho]; simp only [Op.operands, Call.operands, hf]
          exact Array.mem_append.2 (.inr (by simpa using hx))
        have hfe := hr.ev hmemf
        rw [hev] at hfe
        have hfe : a.eval f = .func (.func g) #[] #[] := hfe
        have hargs : RL ρ (c.args.toList.map (ev st.tm)) (c.args.toList.map a.eval) := RL.evs' c.args.toList fun x hx => hr.ev (hmema x hx)
        unfold Oper.wp
        rw [run_call ho hf hfe hcl w, Oper.upon_enter]
        have e : #[] ++ c.args.map a.eval ++ #[] = (c.args.toList.map a.eval).toArray := by apply Array.ext'; simp
        rw [e]
        refine (hc (hΦ w hR.below hR.base) hR (fun k hk b hb => hon.1 (k, b) (knownR_mem hk hb)) hon.2 hargs).mono fun e w' hq => ?_
        obtain ⟨ρ', v, rfl, e1, e2, e3⟩ := hq
        exact hk ρ' v w' e1 e3 e2
      split at h
      · rename_i g s hrc
        obtain ⟨f, hf, hev, hsp⟩ := wCall_iff hrc
        obtain ⟨hcl, hs⟩ := hΓ g _ hsp
        have hmemf : f ∈ o.op.operands := by rw [ho]; simp [Op.operands, Call.operands, hf]
        have hmema : ∀ x ∈ c.args.toList, x ∈ o.op.operands := fun x hx => by
          rw [ho]; simp only [Op.operands, Call.operands, hf]
          exact Array.mem_append.2 (.inr (by simpa using hx))
        have hargs0 : ∀ {ρ : Nat → Option Nat} {a : Act}, RTo ops o ρ st.tm a → RL ρ (c.args.toList.map (ev st.tm)) (c.args.toList.map a.eval) := fun hr => RL.evs' c.args.toList fun x hx => hr.ev (hmema x hx)
        unfold writeD at h
        split at h
        · rename_i d i k o' n' c' has
          obtain ⟨t, xs, held, ks, hp', h2, hks, hlen, hpk, hD⟩ := destD_run (B := B) (w0 := w0) h
          clear h
          split at h2
          · rename_i ht _
            subst ht
            split at h2
            · rename_i b hbk
              split at h2
              · rename_i l hrow hv
                cases hm : (isMine b && (Nat.beq b.T s.T && (Nat.beq o' 0 && (Nat.beq b.cs.length (c' * s.t.enc.z) && Nat.ble n' c')))) with
                | false => simp [hm] at h2
                | true =>
                  simp only [hm, cond_true] at h2
                  simp only [Bool.and_eq_true] at hm
                  obtain ⟨m1, m2, m3, m4, m5⟩ := hm
                  have m1 := isMine_iff m1
                  have m2 := Nat.eq_of_beq_eq_true m2
                  have m3 := Nat.eq_of_beq_eq_true m3
                  have m4 := Nat.eq_of_beq_eq_true m4
                  have m5 := Nat.le_of_ble_eq_true m5
                  split at h2
                  · rename_i ys hy
                    split at h2
                    · rename_i p zs hspq
                      obtain ⟨hp1, hK⟩ := h2
                      have hkk : killL (hpF st.hp) ks k = some b := by rw [← hpk]; exact hbk
                      have hnk : k ∉ ks.map (·.1) := fun q => by
                        unfold killL at hkk
                        rw [if_pos q] at hkk
                        cases hkk
                        cases m1
                      have hbk0 : st.hp[k]? = some b := by
                        unfold killL at hkk
                        rw [if_neg hnk] at hkk
                        exact hkk
                      refine ⟨_, .app ks (knownR st.hp [k]) st.hp.length [⟨s.T, [], some true, some ⟨s.t, zs, true⟩⟩, deadB], _, fun ρ a w H next Q hr hR hon hk => ?_, ⟨fun q hq => ?_, fun i q1 q2 => List.getElem?_eq_none q1⟩, ?_, hK⟩
                      · have hfe := hr.ev hmemf
                        rw [hev] at hfe
                        have hfe : a.eval f = .func (.func g) #[] #[] := hfe
                        have hargs := hargs0 hr
                        unfold Oper.wp
                        rw [run_call ho hf hfe hcl w, Oper.upon_enter]
                        have e : #[] ++ c.args.map a.eval ++ #[] = (c.args.toList.map a.eval).toArray := by apply Array.ext'; simp
                        rw [e]
                        rw [has] at hargs
                        generalize c.args.toList.map a.eval = vs at *
                        match vs, hargs with
                        | [dv, iv, sv], hargs =>
                          obtain ⟨hd, hi, hsv, _⟩ := hargs
                          have hi : iv = .int .i64 i := hi
                          subst hi
                          rw [m3] at hsv
                          have D := hD hR (fun q hq => hon.1 q (List.mem_append_left _ hq)) hd
                          have hkH : killL H ks k = some b := by
                            unfold killL
                            rw [if_neg hnk]
                            exact hon.1 (k, b) (List.mem_append_right _ (knownR_mem (by simp) hbk0))
                          have kn : ∀ j, st.hp.length ≤ j → j < st.hp.length + 2 → killL H ks j = none := fun j j1 j2 => by
                            unfold killL
                            rw [if_neg]
                            · exact hon.2 j j1 (by simpa using j2)
                            · intro q
                              obtain ⟨x, hx, rfl⟩ := List.mem_map.1 q
                              have := (List.getElem?_eq_some_iff.1 (hks x hx)).1
                              omega
                          refine (writeH_run hs D hsv hkH hrow hv m1 m2 m4 m5 hy hspq hp1 (kn st.hp.length (by omega) (by omega)) (kn (st.hp.length + 1) (by omega) (by omega))).mono fun e w' hq => ?_
                          obtain ⟨ρ', v, rfl, q1, q2, q3⟩ := hq
                          exact hk ρ' v w' q1 q3 q2
                      · rcases List.mem_append.1 hq with q1 | q1
                        · exact hks q q1
                        · exact knownR_iff q1
                      · show updL (killL (hpF st.hp) ks) _ _ = _
                        rw [hpF_updL, hlen, hpk]
                    · exact h2.elim
                  · exact h2.elim
              · exact h2.elim
            · exact h2.elim
          · exact h2.elim
        · exact h.elim
      split at h
      · rename_i g s hrc
        obtain ⟨f, hf, hev, hsp⟩ := oCall_iff hrc
        obtain ⟨hcl, hs⟩ := hΓ g _ hsp
        have hmemf : f ∈ o.op.operands := by rw [ho]; simp [Op.operands, Call.operands, hf]
        have hmema : ∀ x ∈ c.args.toList, x ∈ o.op.operands := fun x hx => by
          rw [ho]; simp only [Op.operands, Call.operands, hf]
          exact Array.mem_append.2 (.inr (by simpa using hx))
        have hargs0 : ∀ {ρ : Nat → Option Nat} {a : Act}, RTo ops o ρ st.tm a → RL ρ (c.args.toList.map (ev st.tm)) (c.args.toList.map a.eval) := fun hr => RL.evs' c.args.toList fun x hx => hr.ev (hmema x hx)
        unfold cloneD at h
        split at h
        · rename_i av has
          obtain ⟨m, ys, pos, ⟨⟨hne, hok⟩, hK⟩, hym, _, hH⟩ := srcY_run (B := B) (w0 := w0) h
          refine ⟨_, .call (knownR st.hp (avK1 av)) st.hp.length [⟨s.T, [], some true, some ⟨s.t, ys, true⟩⟩, deadB], _, fun ρ a w H next Q hr hR hon hk => ?_, ⟨fun q hq => knownR_iff hq, fun i q1 q2 => List.getElem?_eq_none q1⟩, (hpF_updL _ _).symm, hK⟩
          have hfe := hr.ev hmemf
          rw [hev] at hfe
          have hfe : a.eval f = .func (.func g) #[] #[] := hfe
          have hargs := hargs0 hr
          unfold Oper.wp
          rw [run_call ho hf hfe hcl w, Oper.upon_enter]
          have e : #[] ++ c.args.map a.eval ++ #[] = (c.args.toList.map a.eval).toArray := by apply Array.ext'; simp
          rw [e]
          rw [has] at hargs
          generalize c.args.toList.map a.eval = vs at *
          match vs, hargs with
          | [v], hargs =>
            refine (cloneH_run hs (hΦ w hR.below hR.base) hR hne hok (hH hR (fun k hk b hb => hon.1 (k, b) (knownR_mem hk hb)) hargs.1) (hon.2 st.hp.length (by omega) (by simp)) (hon.2 (st.hp.length + 1) (by omega) (by simp))).mono fun e w' hq => ?_
            obtain ⟨ρ', v, rfl, q1, q2, q3⟩ := hq
            rw [hym] at q3
            exact hk ρ' v w' q1 q3 q2
        · exact h.elim
      · exact other (by rw [ho]; exact hb) h
  | alloc T =>
    simp only [ho] at h
    cases hi' : P.info? T with
    | none => simp [hi'] at h
    | some i =>
      cases hz : i.zero with
      | none => simp [hi', hz] at h
      | some z =>
        simp only [hi', hz] at h
        refine ⟨.p st.hp.length 0, .new st.hp.length ⟨T, z.cells.toList.map .v, some true, none⟩, _, fun ρ a w H next Q hr hR hon hk => ?_, hpF_none _, (hpF_new _ _).symm, h⟩
        have hrun : (execOp a.eval o).run P w = .ok (.value (.pointer (some ⟨w.heap.size, 0, none⟩))) (w.alloc (.cells z.cells T (0, 0))) := by
          simp only [execOp, ho, Instr.alloc, zeroValue, Sem.run_bind, run_typeInfo w hi', Result.andThen_ok, hz]
          rfl
        refine upon_value' hrun (hk _ _ _ (Ext.new (hR.dom _ hon) _) (R_p 0 (by simp [rnew])) (hR.new hon (by simp) (fun q hq => ?_)))
        rw [lget_map _ _ (by simpa using hq)]
        show _ = _
        simp [List.getD, Array.getD_eq_getD_getElem?]
  | box T x =>
    simp only [ho] at h
    cases hc : cellsOf (ev st.tm x) with
    | none => simp [hc] at h
    | some l =>
      simp only [hc] at h
      refine ⟨.p st.hp.length 0, .new st.hp.length ⟨T, l, some true, none⟩, _, fun ρ a w H next Q hr hR hon hk => ?_, hpF_none _, (hpF_new _ _).symm, h⟩
      obtain ⟨h1, h2⟩ := cellsOf_R hc (hr.ev (x := x) (by simp [ho, Op.operands]))
      have hrun : (execOp a.eval o).run P w = .ok (.value (.pointer (some ⟨w.heap.size, 0, none⟩))) (w.alloc (.cells (a.eval x).cells T (0, 0))) := by
        simp only [execOp, ho, Instr.box]
        rfl
      exact upon_value' hrun (hk _ _ _ (Ext.new (hR.dom _ hon) _) (R_p 0 (by simp [rnew])) (hR.new hon h1 h2))
  | load t x =>
    simp only [ho] at h
    split at h
    · rename_i k i hki
      split at h
      · rename_i av hl
        unfold loadX at hl
        cases hb : st.hp[k]? with
        | none => simp [hb] at hl
        | some b =>
          simp only [hb] at hl
          refine ⟨av, .val [(k, b)], st.hp, fun ρ a w H next Q hr hR hon hk => ?_, (fun q hq => by simp at hq; subst hq; exact hb), rfl, h⟩
          have hx := hr.ev (x := x) (by simp [ho, Op.operands])
          rw [hki] at hx
          obtain ⟨n, hn, hx⟩ := hx
          obtain ⟨v, hv, hr'⟩ := loadB_run hR hn (hon (k, b) (by simp)) hl
          refine upon_value' (v := v) ?_ (hk _ _ w (Ext.refl ρ) hr' hR)
          simp only [execOp, ho, hx, Instr.loadAt, Sem.run_bind, run_sure, Result.andThen_ok, hv]
          rfl
      · exact h.elim
    · rename_i k j z f hki
      split at h
      · rename_i b hb
        obtain ⟨av, h, hl⟩ := loadE_run (B := B) (w0 := w0) h
        refine ⟨av, .val [(k, b)], st.hp, fun ρ a w H next Q hr hR hon hk => ?_, (fun q hq => by simp at hq; subst hq; exact hb), rfl, h⟩
        have hx := hr.ev (x := x) (by simp [ho, Op.operands])
        rw [hki] at hx
        obtain ⟨n, hn, hx⟩ := hx
        obtain ⟨v, hv, hr'⟩ := hl hR hn (hon (k, b) (by simp))
        refine upon_value' (v := v) ?_ (hk _ _ w (Ext.refl ρ) hr' hR)
        simp only [execOp, ho, hx, Instr.loadAt, Sem.run_bind, run_sure, Result.andThen_ok, hv]
        rfl
      · exact h.elim
    · rename_i k j z f hki
      split at h
      · rename_i b hb
        obtain ⟨av, h, hl⟩ := loadF_run (B := B) (w0 := w0) h
        refine ⟨av, .val [(k, b)], st.hp, fun ρ a w H next Q hr hR hon hk => ?_, (fun q hq => by simp at hq; subst hq; exact hb), rfl, h⟩
        have hx := hr.ev (x := x) (by simp [ho, Op.operands])
        rw [hki] at hx
        obtain ⟨n, off, hn, hoff, hx⟩ := hx
        obtain ⟨v, hv, hr'⟩ := hl hR hn hoff (hon (k, b) (by simp))
        refine upon_value' (v := v) ?_ (hk _ _ w (Ext.refl ρ) hr' hR)
        simp only [execOp, ho, hx, Instr.loadAt, Sem.run_bind, run_sure, Result.andThen_ok, hv]
        rfl
      · exact h.elim
    · exact h.elim
  | store t x y =>
    simp only [ho] at h
    split at h
    · rename_i k i hki
      split at h
      · rename_i hp' hl
        unfold storeX at hl
        cases hb : st.hp[k]? with
        | none => simp [hb] at hl
        | some b =>
          simp only [hb] at hl
          cases hy : storeB P b t i (ev st.tm y) with
          | none => simp [hy] at hl
          | some c =>
            simp only [hy, Option.some.injEq] at hl
            subst hl
            refine ⟨.v undef, .put k b c, _, fun ρ a w H next Q hr hR hon hk => ?_, hb, (hpF_bset _ hb _).symm, h⟩
            have hx := hr.ev (x := x) (by simp [ho, Op.operands])
            rw [hki] at hx
            obtain ⟨n, hn, hx⟩ := hx
            obtain ⟨w', hw', hr'⟩ := storeB_run hR hn hon (hr.ev (x := y) (by simp [ho, Op.operands])) hy
            unfold Oper.wp
            have hrun : (execOp a.eval o).run P w = .ok .skip w' := by
              simp only [execOp, ho, hx, Instr.storeAt, Sem.run_bind, run_sure, Result.andThen_ok, hw']
              rfl
            rw [hrun]
            exact hk _ _ _ (Ext.refl ρ) (R_v undef) hr'
      · exact h.elim
    · rename_i k j z f hki
      split at h
      · rename_i b hb
        obtain ⟨c, h, hl⟩ := storeE_run (B := B) (w0 := w0) h
        refine ⟨.v undef, .put k b c, _, fun ρ a w H next Q hr hR hon hk => ?_, hb, (hpF_bset _ hb _).symm, h⟩
        have hx := hr.ev (x := x) (by simp [ho, Op.operands])
        rw [hki] at hx
        obtain ⟨n, hn, hx⟩ := hx
        obtain ⟨w', hw', hr'⟩ := hl hR hn hon (hr.ev (x := y) (by simp [ho, Op.operands]))
        unfold Oper.wp
        have hrun : (execOp a.eval o).run P w = .ok .skip w' := by
          simp only [execOp, ho, hx, Instr.storeAt, Sem.run_bind, run_sure, Result.andThen_ok, hw']
          rfl
        rw [hrun]
        exact hk _ _ _ (Ext.refl ρ) (R_v undef) hr'
      · exact h.elim
    · exact h.elim
  | buildSlice t len parts =>
    simp only [ho] at h
    split at h
    · rename_i e cells hp
      refine ⟨.s st.hp.length 0 len len, .new st.hp.length ⟨e, cells.toList.map .v, some true, none⟩, _, fun ρ a w H next Q hr hR hon hk => ?_, hpF_none _, (hpF_new _ _).symm, h⟩
      have hrun := partsX_run (a := a) hp (fun q hq hv => evV_eq' (hr.ev (x := q.2) (by rw [ho]; simp only [Op.operands]; simpa using ⟨q.1, by simpa using hq⟩)) hv) w
      refine upon_value' (v := .slice (some ⟨w.heap.size, 0, none⟩) len len) (w' := w.alloc (.cells cells e)) ?_ (hk _ _ _ (Ext.new (hR.dom _ hon) _) (R_s 0 len len (by simp [rnew])) (hR.new hon (by simp) (fun q hq => by rw [lget_map _ _ (by simpa using hq)]; show _ = _; simp [List.getD, Array.getD_eq_getD_getElem?])))
      simp only [execOp, ho, Sem.run_bind, hrun, Result.andThen_ok]
      rfl
    · exact h.elim
  | _ => simp only [ho] at h; exact other (by rw [ho]; rfl) h
def dopsX (P : Program) (Γ : List (FuncId × CSpec)) (ops : Array Oper) (all : List Oper) : List Oper → List (List Nat × List Nat) → AS → (AS → Prop) → Prop
  | [], fps, st, K => bif pairsB .any ops fps.reverse then K st else False
  | o :: rest, fps, st, K => wantX all st o (fun st => dopX P Γ o st fun av hp fp => forceL (dput st.tm o.dst av) fun tm => dopsX P Γ ops all rest (fp :: fps) ⟨tm, hp⟩ K)
      (fun st => forceL (dput st.tm o.dst (.v undef)) fun tm => dopsX P Γ ops all rest (([], []) :: fps) ⟨tm, st.hp⟩ K)
theorem lset_self : ∀ (l : List AV) (n : Nat), lset l n (lget l n) = l
  | [], _ => rfl
  | _ :: l, 0 => rfl
  | x :: l, n + 1 => by simp [lset, lget, lset_self l n]
theorem wantX_ways {ops : Array Oper} {st : AS} {o : Oper} {yes no : AS → Prop} (h : wantX ops.toList st o yes no) : (Wd ops o st.tm true ∧ yes st) ∨ (Wd ops o st.tm false ∧ no st) := by
  unfold wantX at h
  cases hg : o.guard with
  | none =>
    simp only [hg] at h
    exact .inl ⟨fun ρ a hr => by unfold Region.wanted; rw [hg], h⟩
  | some jw =>
    obtain ⟨j, want⟩ := jw
    simp only [hg] at h
    rw [lnth_eq] at h
    cases hj : ops.toList[j]? with
    | none =>
      have hj' : ops[j]? = none := by simpa using hj
      simp only [hj] at h
      exact .inr ⟨fun ρ a hr => by unfold Region.wanted; simp [hg, yielded, hj'], h⟩
    | some g =>
      have hj' : ops[j]? = some g := by simpa using hj
      simp only [hj] at h
      cases hd : g.dst with
      | none =>
        simp only [hd] at h
        exact .inr ⟨fun ρ a hr => by unfold Region.wanted; simp [hg, yielded, hj', hd], h⟩
      | some d =>
        simp only [hd] at h
        have hmem : d ∈ o.looksAt ops := by
          unfold Oper.looksAt
          refine List.mem_append.2 (.inr ?_)
          simp [hg, hj', hd]
        have hself := lset_self st.tm d
        cases hl : lget st.tm d with
        | v x =>
          simp only [hl] at h
          have hv : ∀ ρ a, RTo ops o ρ st.tm a → a.tmps.getD d undef = x := fun ρ a hr => by
            have := hr d hmem; rw [hl] at this; exact this
          have hwd : ∀ b, (boolOf x == some want) = b → Wd ops o st.tm b := fun b e ρ a hr => by
            unfold Region.wanted
            simp only [hg]
            rw [yielded_some hj' hd, hv ρ a hr]
            exact e
          rw [hl] at hself
          cases x with
          | bool b =>
            cases b <;> cases want <;> simp only [bcase, cond_true, cond_false, hself] at h
            · exact .inl ⟨hwd _ rfl, h⟩
            · exact .inr ⟨hwd _ rfl, h⟩
            · exact .inr ⟨hwd _ rfl, h⟩
            · exact .inl ⟨hwd _ rfl, h⟩
          | _ => exact .inr ⟨hwd _ rfl, h⟩
        | _ => simp only [hl] at h
theorem dopsX_run {Φ : World → Prop} {Γ : List (FuncId × CSpec)} (hΓ : Sound P Φ Γ) (hΦ : ∀ w, Below B w0 w → B ≤ w.heap.size → Φ w) {ops : Array Oper} {K : AS → Prop} :
    ∀ (rest : List Oper) (k : Nat) (fps : List (List Nat × List Nat)) (st : AS), dopsX P Γ ops ops.toList rest fps st K →
    ∃ L : List (AV × Kd), L.length = rest.length ∧ pairsB .any ops (fps.reverse ++ L.map (·.2.fp)) = true ∧
      ∀ (α : Nat → AV) (kd : Nat → Kd), (∀ i x, L[i]? = some x → α (k + i) = x.1 ∧ kd (k + i) = x.2) →
        runD P B w0 ops α kd (fun tm H => ∃ st' : AS, st'.tm = tm ∧ hpF st'.hp = H ∧ K st') rest k st.tm (hpF st.hp)
  | [], k, fps, st, h => by
    simp only [dopsX, forceL_eq] at h
    cases hb : pairsB .any ops fps.reverse with
    | false => simp [hb] at h
    | true =>
      simp only [hb, cond_true] at h
      exact ⟨[], rfl, by simpa using hb, fun α kd _ => ⟨st, rfl, rfl, h⟩⟩
  | o :: rest, k, fps, st, h => by
    simp only [dopsX, forceL_eq] at h
    rcases wantX_ways h with ⟨hw, h⟩ | ⟨hw, h⟩
    · obtain ⟨α0, kd0, hp', h1, h2, h3, h4⟩ := dopX_sound (B := B) (w0 := w0) (ops := ops) hΓ hΦ h
      obtain ⟨L, l1, l2, l3⟩ := dopsX_run hΓ hΦ rest (k + 1) _ _ h4
      refine ⟨(α0, kd0) :: L, by simp [l1], by simpa using l2, fun α kd hα => ?_⟩
      obtain ⟨e1, e2⟩ := hα 0 _ rfl
      simp only [Nat.add_zero] at e1 e2
      refine ⟨.inl ⟨hw, by rw [e1, e2]; exact h1⟩, by rw [e2]; exact h2, ?_⟩
      rw [e1, e2, h3]
      exact l3 α kd fun i x hx => by have := hα (i + 1) x (by simpa using hx); rwa [show k + (i + 1) = k + 1 + i by omega] at this
    · obtain ⟨L, l1, l2, l3⟩ := dopsX_run hΓ hΦ rest (k + 1) _ _ h
      refine ⟨(.v undef, .val []) :: L, by simp [l1], by simpa [Kd.fp, Kd.reads, Kd.writes] using l2, fun α kd hα => ?_⟩
      obtain ⟨e1, e2⟩ := hα 0 _ rfl
      simp only [Nat.add_zero] at e1 e2
      refine ⟨.inr ⟨hw, e1, e2⟩, by rw [e2]; exact (fun q hq => by cases hq), ?_⟩
      rw [e1, e2]
      exact l3 α kd fun i x hx => by have := hα (i + 1) x (by simpa using hx); rwa [show k + (i + 1) = k + 1 + i by omega] at this
theorem pairsB_spec {md : Region.Mode} {ops : Array Oper} {fps : List (List Nat × List Nat)} (h : pairsB md ops fps = true) {i j : Nat} (hij : i < j) {x y : List Nat × List Nat}
    (hx : fps[i]? = some x) (hy : fps[j]? = some y) (hw : waitsA (ancL md ops.toList []) i j = false) : indepF x y = true := by
  unfold pairsB pairsA at h
  have h1 := List.all_eq_true.1 h (x, i) (List.mem_iff_getElem?.2 ⟨i, by rw [List.getElem?_zipIdx, hx]; simp⟩)
  have h2 := List.all_eq_true.1 h1 (y, j) (List.mem_iff_getElem?.2 ⟨j - (i + 1), by
    rw [List.getElem?_drop, show i + 1 + (j - (i + 1)) = j by omega, List.getElem?_zipIdx, hy]; simp⟩)
  simp only [Bool.or_eq_true] at h2
  rcases h2 with q | q
  · exact q
  · rw [hw] at q; cases q
theorem dregion_sound {ds : List Deferred} {Φ : World → Prop} {Γ : List (FuncId × CSpec)} (hΓ : Sound P Φ Γ) (hΦ : ∀ w, Below B w0 w → B ≤ w.heap.size → Φ w) {ops : Array Oper} {id : Nat} {K : AS → Prop} {Q : Exit → Act → World → Prop} {st : AS} {a : Act}
    (hm : P.follows .mixedOrders = true) (hB : Region.lexB .any ops = true) (hT : RT ρ st.tm a.tmps) (hd : a.defers = ds) (hR : Rel B w0 ρ (hpF st.hp) w) (h : dopsX P Γ ops ops.toList ops.toList [] st K)
    (hk : ∀ st' a' w' ρ', Ext ρ ρ' → RT ρ' st'.tm a'.tmps → a'.defers = ds → Rel B w0 ρ' (hpF st'.hp) w' → K st' → Q .normal a' w') : (Code.region id ops true).wp P Q a w := by
  obtain ⟨L, l1, l2, l3⟩ := dopsX_run (B := B) (w0 := w0) hΓ hΦ ops.toList 0 [] st h
  simp only [Region.lexB, Bool.and_eq_true] at hB
  let α : Nat → AV := fun i => (L.getD i (.any, .val [])).1
  let kd : Nat → Kd := fun i => (L.getD i (.any, .val [])).2
  have hrun := l3 α kd fun i x hx => by simp [α, kd, List.getD, hx]
  refine wp_region_any hm ?_
  have hlex := anyD_lex (md := .any) (ops := ops) (P := P) (B := B) (w0 := w0) (α := α) (kd := kd) (Fin := fun tm H => ∃ st' : AS, st'.tm = tm ∧ hpF st'.hp = H ∧ K st') (fun i j hij hj hw => by
      have hi' : i < L.length := by rw [l1]; simp; omega
      have hj' : j < L.length := by rw [l1]; simpa using hj
      have e : ∀ q, q < L.length → (L.map (·.2.fp))[q]? = some (kd q).fp := fun q hq => by
        simp [kd, List.getD, List.getElem?_eq_getElem hq]
      exact pairsB_spec (by simpa using l2) hij (e i hi') (e j hj') hw)
    ops.toList 0 (Array.replicate ops.size false) st.tm (hpF st.hp) (fun j => by simp) ⟨by simp, fun j oj hj hl => by rw [getD_rep] at hl; cases hl⟩ (fun j hj => by omega) (by simpa using hB.2) hrun
  have := anyD_sound (md := .any) (Q := Q) (ρ0 := ρ) (fun tm H ρ' a' w' hf h1 h2 h3 h4 => by
    obtain ⟨st', rfl, rfl, hK⟩ := hf
    exact hk st' a' w' ρ' h4 h1 h2 h3 hK) _ _ _ _ ρ a { w with drawn := w.drawn + 1 } (Ext.refl ρ) hT hd (hR.drawn _) hlex
  simpa using this
section
variable {ops : Array Oper} {md : Region.Mode}
/-! A region of open order whose last operation waits for all others: the others come in some order, and then it. -/
def anyE (P : Program) (B : Nat) (w0 : World) (md : Region.Mode) (ops : Array Oper) (α : Nat → AV) (kd : Nat → Kd) (Fin : List AV → (Nat → Option Blk) → Prop) (z : Nat) : Nat → Array Bool → List AV → (Nat → Option Blk) → Prop
  | 0, listed, tm, H => Region.ready md ops listed ≠ [] ∧ (∀ j ∈ Region.ready md ops listed, j = z) ∧ Region.ready md ops (listed.setIfInBounds z true) = [] ∧ Fin tm H
  | fuel + 1, listed, tm, H =>
    Region.ready md ops listed ≠ [] ∧
    ∀ i ∈ Region.ready md ops listed, ∃ o, ops[i]? = some o ∧ YD P B w0 ops o tm (α i) (kd i) ∧ (kd i).on H ∧
      anyE P B w0 md ops α kd Fin z fuel (listed.setIfInBounds i true) (dput tm o.dst (α i)) ((kd i).eff H)
theorem anyE_sound {ds : List Deferred} {α : Nat → AV} {kd : Nat → Kd} {Fin : List AV → (Nat → Option Blk) → Prop} {Q : Exit → Act → World → Prop} {ρ0 : Nat → Option Nat} {z : Nat}
    (hQ : ∀ tm H ρ a w, Fin tm H → RT ρ tm a.tmps → a.defers = ds → Rel B w0 ρ H w → Ext ρ0 ρ → wpOp P ops Q z (fun a w => Q .normal a w) a w) :
    ∀ (fuel : Nat) (listed : Array Bool) (tm : List AV) (H : Nat → Option Blk) (ρ : Nat → Option Nat) (a : Act) (w : World), Ext ρ0 ρ → RT ρ tm a.tmps → a.defers = ds → Rel B w0 ρ H w →
      anyE P B w0 md ops α kd Fin z fuel listed tm H → wpAny P md ops Q (fuel + 1) listed a w
  | 0, listed, tm, H, ρ, a, w, he, hT, hd, hR, h => by
    obtain ⟨h1, h2, h3, h4⟩ := h
    refine ⟨fun h0 => absurd h0 h1, fun i hi => ?_⟩
    rw [h2 i hi]
    exact wpOp_mono (fun a w hq => ⟨h3, hq⟩) (hQ tm H ρ a w h4 hT hd hR he)
  | fuel + 1, listed, tm, H, ρ, a, w, he, hT, hd, hR, h => by
    refine ⟨fun h0 => absurd h0 h.1, fun i hi => ?_⟩
    obtain ⟨o, ho, hy, hon, hrest⟩ := h.2 i hi
    unfold wpOp
    simp only [ho]
    rcases hy with ⟨h1, h2⟩ | ⟨h1, h2, h3⟩
    · rw [if_pos (h1 ρ a (hT.o o))]
      refine .inl (h2 ρ a w H _ Q (hT.o o) hR hon fun ρ' v w' e1 e2 e3 => ?_)
      exact anyE_sound hQ fuel _ _ _ ρ' _ w' (he.trans e1) ((hT.mono e1).dput o.dst e2) (by rw [put_defers]; exact hd) e3 hrest
    · rw [if_neg (by rw [h1 ρ a (hT.o o)]; simp)]
      rw [h2, h3] at hrest
      exact anyE_sound hQ fuel _ _ _ ρ _ w he (hT.dput o.dst (show (AV.v undef).R ρ undef from rfl)) (by rw [put_defers]; exact hd) hR hrest
theorem anyE_first {α : Nat → AV} {kd : Nat → Kd} {Fin : List AV → (Nat → Option Blk) → Prop} {i z : Nat} {A : List (List Nat)} (hA : AncOk md ops A) {oi : Oper} (hi : ops[i]? = some oi) (hiz : i ≠ z) (hz : waitsA A i z = true) :
    ∀ (fuel : Nat) (listed : Array Bool) (tm : List AV) (H : Nat → Option Blk), Closed md ops listed →
      (∀ j oj, ops[j]? = some oj → j ≠ i → listed.getD j true = false → (∀ e ∈ oj.after, Region.binds md e = true → e.on ≠ i) → oi.apart ops oj = true) →
      (∀ j oj, ops[j]? = some oj → j ≠ i → listed.getD j true = false → waitsA A i j = false → indepF (kd i).fp (kd j).fp = true) →
      i ∈ Region.ready md ops listed → YD P B w0 ops oi tm (α i) (kd i) → (kd i).on H →
      anyE P B w0 md ops α kd Fin z fuel (listed.setIfInBounds i true) (dput tm oi.dst (α i)) ((kd i).eff H) → anyE P B w0 md ops α kd Fin z (fuel + 1) listed tm H := by
  intro fuel
  induction fuel with
  | zero =>
    intro listed tm H hc _ _ hr hy hon h
    refine ⟨fun h0 => (by rw [h0] at hr; cases hr), fun j hj => ?_⟩
    by_cases hji : j = i
    · subst hji; exact ⟨oi, hi, hy, hon, h⟩
    · have := h.2.1 j (ready_mono hj hji)
      subst this
      have := hc.notWaits hA hj (mem_ready.1 hr).1
      rw [hz] at this; cases this
  | succ fuel ih =>
    intro listed tm H hc hfree hind hr hy hon h
    refine ⟨fun h0 => (by rw [h0] at hr; cases hr), fun j hj => ?_⟩
    by_cases hji : j = i
    · subst hji; exact ⟨oi, hi, hy, hon, h⟩
    · obtain ⟨oj, hoj, hyj, honj, hrest⟩ := h.2 j (ready_mono hj hji)
      have hjun := (mem_ready.1 hj).1
      have hiun := (mem_ready.1 hr).1
      obtain ⟨_, oj', hoj', hall⟩ := mem_ready.1 hj
      obtain rfl : oj' = oj := Option.some.inj (hoj'.symm.trans hoj)
      have hnot : ∀ e ∈ oj'.after, Region.binds md e = true → e.on ≠ i := fun e he hb heq => by
        have h1 := hall e he hb
        rw [heq, getDb hiun] at h1
        cases h1
      have hap := Oper.apart_spec (hfree j oj' hoj hji hjun hnot)
      have hin := hind j oj' hoj hji hjun (hc.notWaits hA hj hiun)
      have hin' := hin
      unfold indepF at hin'
      simp only [Bool.and_eq_true] at hin'
      obtain ⟨p1, p2, p3⟩ := hap
      refine ⟨oj', hoj, hyj.congr (fun t ht => dput_get fun e he q => p1 e he (q ▸ ht)), (on_eff hin'.2).1 honj, ?_⟩
      refine ih (listed.setIfInBounds j true) _ _ (hc.set hj) (fun k ok hk hki hun hno => ?_) (fun k ok hk hki hun hno => ?_) (ready_mono hr (Ne.symm hji))
        (hy.congr (fun t ht => (dput_get fun e he q => p3 e he (q ▸ ht)).symm)) ((on_eff hin'.1).2 hon) ?_
      · refine hfree k ok hk hki ?_ hno
        by_cases hjk : j = k
        · subst hjk; exact hjun
        · rw [getD_set_ne true hjk] at hun; exact hun
      · refine hind k ok hk hki ?_ hno
        by_cases hjk : j = k
        · subst hjk; exact hjun
        · rw [getD_set_ne true hjk] at hun; exact hun
      · rw [Array.setIfInBounds_comm _ _ hji, ← dput_comm tm (α i) (α j) p2, eff_comm hin]
        exact hrest
theorem anyE_lex {α : Nat → AV} {kd : Nat → Kd} {Fin : List AV → (Nat → Option Blk) → Prop} {z : Nat} (hzs : z + 1 = ops.size)
    (hwz : ∀ i, i < z → waitsA (ancL md ops.toList []) i z = true)
    (hind : ∀ i j, i < j → j < z → waitsA (ancL md ops.toList []) i j = false → indepF (kd i).fp (kd j).fp = true) : ∀ (l : List Oper) (k : Nat) (listed : Array Bool) (tm : List AV) (H : Nat → Option Blk), k + l.length = z → (∀ j, j < l.length → l[j]? = ops[k + j]?) →
    Closed md ops listed → (∀ j, j < k → j < ops.size → listed.getD j true = true) →
    Region.lexFrom md ops (l.length + 1) k listed = true → runD P B w0 ops α kd Fin l k tm H → anyE P B w0 md ops α kd Fin z l.length listed tm H
  | [], k, listed, tm, H, hk, _, hc, hlist, hB, h => by
    simp only [List.length_nil, Region.lexFrom, Bool.and_eq_true] at hB
    have hk : k = z := by simpa using hk
    subst hk
    obtain ⟨⟨hr, _⟩, he⟩ := hB
    have hr : k ∈ Region.ready md ops listed := by simpa using hr
    refine ⟨fun h0 => (by rw [h0] at hr; cases hr), fun j hj => ?_, by simpa using he, h⟩
    have hj' := mem_ready.1 hj
    obtain ⟨hun, oj, hoj, _⟩ := hj'
    have hjs : j < ops.size := (Array.getElem?_eq_some_iff.1 hoj).1
    rcases Nat.lt_or_ge j k with q | q
    · rw [hlist j q hjs] at hun; cases hun
    · omega
  | o :: l, k, listed, tm, H, hk, hl, hc, hlist, hB, h => by
    have h0 : ops[k]? = some o := by simpa using (hl 0 (by simp)).symm
    simp only [List.length_cons] at hk
    simp only [List.length_cons, Region.lexFrom, Bool.and_eq_true] at hB
    obtain ⟨⟨hr, hf⟩, hB'⟩ := hB
    have hr : k ∈ Region.ready md ops listed := by simpa using hr
    obtain ⟨hy, hon, hrest⟩ := h
    refine anyE_first (ancL_ok0 md ops) h0 (by omega) (hwz k (by omega)) l.length listed tm H hc (Region.free_spec h0 hf) (fun j oj hoj hjk hun hw => ?_) hr hy hon ?_
    · have hjs : j < ops.size := (Array.getElem?_eq_some_iff.1 hoj).1
      by_cases hjz : j = z
      · rw [hjz, hwz k (by omega)] at hw; cases hw
      refine hind k j ?_ (by omega) hw
      rcases Nat.lt_or_ge k j with q | q
      · exact q
      · have := hlist j (by omega) hjs
        rw [this] at hun; cases hun
    · refine anyE_lex hzs hwz hind l (k + 1) _ _ _ (by omega) (fun j hj => by have := hl (j + 1) (by simpa using hj); simpa [Nat.add_assoc, Nat.add_comm 1 j] using this) (hc.set hr) (fun j hj hjs => ?_) (by simpa [Region.lexFrom] using hB') hrest
      by_cases q : k = j
      · subst q
        have : k < listed.size := by rw [hc.size]; exact hjs
        simp [this]
      · rw [getD_set_ne true q]; exact hlist j (by omega) hjs
end
def initL : List Oper → List Oper
  | [] => []
  | [_] => []
  | o :: q :: l => o :: initL (q :: l)
def lastL : List Oper → List Oper
  | [] => []
  | [o] => [o]
  | _ :: q :: l => lastL (q :: l)
theorem initL_len : ∀ (l : List Oper), l ≠ [] → (initL l).length + 1 = l.length
  | [], h => absurd rfl h
  | [_], _ => rfl
  | o :: q :: l, _ => by
    have := initL_len (q :: l) (by simp)
    simp only [initL, List.length_cons] at this ⊢
    omega
theorem initL_get : ∀ (l : List Oper) (j : Nat), j < (initL l).length → (initL l)[j]? = l[j]?
  | [], j, h => absurd h (by simp [initL])
  | [_], j, h => absurd h (by simp [initL])
  | o :: q :: l, 0, _ => by simp [initL]
  | o :: q :: l, j + 1, h => by
    simp only [initL, List.length_cons] at h
    simp only [initL, List.getElem?_cons_succ]
    exact initL_get (q :: l) j (by omega)
theorem lastL_get : ∀ (l : List Oper), l ≠ [] → ∃ o, lastL l = [o] ∧ l[l.length - 1]? = some o
  | [], h => absurd rfl h
  | [o], _ => ⟨o, rfl, rfl⟩
  | o :: q :: l, _ => by
    obtain ⟨x, h1, h2⟩ := lastL_get (q :: l) (by simp)
    refine ⟨x, h1, ?_⟩
    simpa using h2
def lastB (md : Region.Mode) (ops : List Oper) : Bool :=
  (match lastL ops with
   | [o] => (match o.op with | .call c => (match c.callee with | .value (.tmp _) => true | _ => false) | _ => false)
   | _ => false) &&
  ((List.range (ops.length - 1)).all fun i => waitsA (ancL md ops []) i (ops.length - 1))
theorem lregion_sound {ds : List Deferred} {Φ : World → Prop} {Γ : List (FuncId × CSpec)} {inl : Inl} (hΓ : Sound P Φ Γ) (hΦ : ∀ w, Below B w0 w → B ≤ w.heap.size → Φ w) (hi : InlSound P B w0 inl) {ops : Array Oper} {id : Nat} {K : AS → Prop} {Q : Exit → Act → World → Prop} {st : AS} {a : Act}
    (hm : P.follows .mixedOrders = true) (hB : Region.lexB .any ops = true) (hL : lastB .any ops.toList = true) (hT : RT ρ st.tm a.tmps) (hd : a.defers = ds) (hR : Rel B w0 ρ (hpF st.hp) w)
    (h : dopsX P Γ ops ops.toList (initL ops.toList) [] st fun st' => opsX P Γ inl ops.toList (lastL ops.toList) st' K)
    (hk : ∀ st' a' w' ρ', Ext ρ ρ' → RT ρ' st'.tm a'.tmps → a'.defers = ds → Rel B w0 ρ' (hpF st'.hp) w' → K st' → Q .normal a' w') : (Code.region id ops true).wp P Q a w := by
  unfold lastB at hL
  simp only [Bool.and_eq_true] at hL
  obtain ⟨hL1, hL2⟩ := hL
  have hne : ops.toList ≠ [] := by
    intro q
    rw [q] at hL1
    simp [lastL] at hL1
  have hlen := initL_len ops.toList hne
  have hsz : ops.toList.length = ops.size := by simp
  obtain ⟨o, ho, hoz⟩ := lastL_get ops.toList hne
  obtain ⟨L, l1, l2, l3⟩ := dopsX_run (B := B) (w0 := w0) hΓ hΦ (initL ops.toList) 0 [] st h
  simp only [Region.lexB, Bool.and_eq_true] at hB
  let α : Nat → AV := fun i => (L.getD i (.any, .val [])).1
  let kd : Nat → Kd := fun i => (L.getD i (.any, .val [])).2
  have hrun := l3 α kd fun i x hx => by simp [α, kd, List.getD, hx]
  have hwz : ∀ i, i < (initL ops.toList).length → waitsA (ancL .any ops.toList []) i (initL ops.toList).length = true := fun i hi' => by
    have := List.all_eq_true.1 hL2 i (by simp only [List.mem_range]; omega)
    rw [show ops.toList.length - 1 = (initL ops.toList).length by omega] at this
    exact this
  refine wp_region_any hm ?_
  have hlex := anyE_lex (md := .any) (ops := ops) (P := P) (B := B) (w0 := w0) (α := α) (kd := kd) (Fin := fun tm H => ∃ st' : AS, st'.tm = tm ∧ hpF st'.hp = H ∧ opsX P Γ inl ops.toList (lastL ops.toList) st' K) (z := (initL ops.toList).length) (by omega) hwz
    (fun i j hij hj hw => by
      have hi' : i < L.length := by rw [l1]; omega
      have hj' : j < L.length := by rw [l1]; omega
      have e : ∀ q, q < L.length → (L.map (·.2.fp))[q]? = some (kd q).fp := fun q hq => by
        simp [kd, List.getD, List.getElem?_eq_getElem hq]
      exact pairsB_spec (by simpa using l2) hij (e i hi') (e j hj') hw)
    (initL ops.toList) 0 (Array.replicate ops.size false) st.tm (hpF st.hp) (by omega) (fun j hj => by rw [initL_get _ j hj]; simp) ⟨by simp, fun j oj hj hl => by rw [getD_rep] at hl; cases hl⟩ (fun j hj => by omega) (by rw [hlen, hsz]; exact hB.2) hrun
  have := anyE_sound (md := .any) (Q := Q) (ρ0 := ρ) (ds := ds) (fun tm H ρ' a' w' hf h1 h2 h3 h4 => by
    obtain ⟨st', rfl, rfl, hK⟩ := hf
    have q := opsX_sound (Q := Q) hΓ hΦ hi (all := ops) (lastL ops.toList) (initL ops.toList).length (fun j => by
      rw [ho]
      cases j with
      | zero =>
        rw [show ops.toList.length - 1 = (initL ops.toList).length by omega] at hoz
        simpa using hoz.symm
      | succ j =>
        have : ops.size ≤ (initL ops.toList).length + (j + 1) := by omega
        simp [Array.getElem?_eq_none this]) h1 h2 h3 hK fun st'' a'' w'' ρ'' k1 k2 k3 k4 k5 => hk st'' a'' w'' ρ'' (h4.trans k1) k2 k3 k4 k5
    rw [ho] at q
    simp only [List.length_singleton, List.range'_one, wpOps_cons] at q
    exact q) _ _ _ _ ρ a { w with drawn := w.drawn + 1 } (Ext.refl ρ) hT hd (hR.drawn _) hlex
  rw [hlen, hsz] at this
  exact this
end
section
variable {P : Program} {B : Nat} {w0 w : World} {ρ : Nat → Option Nat} {hp : List Blk}
def rowLe : Option Row → Option Row → Prop
  | none, none => True
  | some r, some q => (⟨r.t, r.xs, q.held⟩ : Row) = q ∧ (q.held = true → r.held = true)
  | _, _ => False
def avFits (n : Nat) : AV → Bool
  | .p k _ => Nat.blt k n
  | .c _ l => l.all fun q => Nat.blt q.1 n
  | .s k _ _ _ => Nat.blt k n
  | .e k _ _ _ => Nat.blt k n
  | .rs k _ => Nat.blt (k + 1) n
  | .os k _ => Nat.blt (k + 1) n
  | .ps k _ _ _ => Nat.blt k n
  | .sl k _ _ _ => Nat.blt (k + 1) n
  | .fe k _ _ _ => Nat.blt (k + 1) n
  | .ag _ => false
  | .tu _ => false
  | _ => true
def tmFits (n : Nat) (l : List AV) : Bool := l.all (avFits n)
theorem tmFits_get {n : Nat} : ∀ {l : List AV}, tmFits n l = true → ∀ i, avFits n (lget l i) = true
  | [], _, i => by simp [lget, avFits]
  | _ :: l, h, 0 => by simp [tmFits] at h; exact h.1
  | a :: l, h, i + 1 => by
    simp [tmFits] at h
    exact tmFits_get (l := l) (by simpa [tmFits] using h.2) i
theorem rowLe_live {a b : Blk} (h1 : a.own = b.own) (h2 : rowLe a.row b.row) (hb : b.live) : a.live := by
  refine ⟨by rw [h1]; exact hb.1, fun r hr => ?_⟩
  cases hq : b.row with
  | none => rw [hr, hq] at h2; exact h2.elim
  | some q =>
    rw [hr, hq] at h2
    rcases hb.2 q hq with h3 | h3
    · exact .inl (h2.2 h3)
    · refine .inr ?_
      obtain ⟨qt, xs, g⟩ := q
      obtain ⟨rt, xs', g'⟩ := r
      obtain ⟨h4, _⟩ := h2
      cases h4
      exact h3
/-! Lesser knowledge, under other numbers of the blocks: a state at a loop's head names the blocks in its own order, and a row that is empty may lie nowhere. -/
def nget : List Nat → Nat → Nat
  | [], _ => 0
  | a :: _, 0 => a
  | _ :: l, n + 1 => nget l n
def AV.leR (rn : List Nat) : AV → AV → Prop
  | _, .any => True
  | .v x, .v y => x = y
  | .p k o, .p l q => k = nget rn l ∧ o = q
  | .c f l, .c g m => f = g ∧ l = m.map fun q => (nget rn q.1, q.2)
  | .s k o n d, .s l q m y => (k = nget rn l ∧ o = q) ∧ n = m ∧ d = y
  | .e k o n d, .e l q m y => (k = nget rn l ∧ o = q) ∧ n = m ∧ d = y
  | .rs k n, .rs l m => (k = nget rn l ∧ k + 1 = nget rn (l + 1)) ∧ n = m
  | .os k n, .os l m => (k = nget rn l ∧ k + 1 = nget rn (l + 1)) ∧ n = m
  | .rs k n, .os l m => (k = nget rn l ∧ k + 1 = nget rn (l + 1)) ∧ n = m ∧ n ≠ 0
  | .v x, .os _ m => x = .slice none 0 0 ∧ m = 0
  | .ps k o z n, .ps l q y m => k = nget rn l ∧ (o = q ∧ z = y) ∧ n = m
  | .rs k n, .ps l q _ m => k = nget rn l ∧ q = 0 ∧ n = m
  | .os k n, .ps l q _ m => k = nget rn l ∧ q = 0 ∧ n = m
  | .v x, .ps _ _ _ m => x = .slice none 0 0 ∧ m = 0
  | .sl k o z n, .sl l q y m => (k = nget rn l ∧ k + 1 = nget rn (l + 1)) ∧ (o = q ∧ z = y) ∧ n = m
  | .fe k j z f, .fe l i y g => (k = nget rn l ∧ k + 1 = nget rn (l + 1)) ∧ (j = i ∧ z = y) ∧ f = g
  | _, _ => False
def AV.leA (rn : List Nat) (a b : AV) (k : Prop) : Prop :=
  match b with
  | .any => k
  | .v (.int j y) => (match a with | .v (.int i x) => bif decide (i = j) then x = y ∧ k else False | _ => False)
  | .v (.bool y) => (match a with | .v (.bool x) => x = y ∧ k | _ => False)
  | .v (.string y) => (match a with | .v (.string x) => x = y ∧ k | _ => False)
  | .p l q => (match a with | .p i o => bif Nat.beq i (nget rn l) && Nat.beq o q then k else False | _ => False)
  | .rs l m => (match a with | .rs i n => bif Nat.beq i (nget rn l) && Nat.beq (i + 1) (nget rn (l + 1)) then n = m ∧ k else False | _ => False)
  | .os l m =>
    (match a with
    | .os i n => bif Nat.beq i (nget rn l) && Nat.beq (i + 1) (nget rn (l + 1)) then n = m ∧ k else False
    | .rs i n => bif Nat.beq i (nget rn l) && Nat.beq (i + 1) (nget rn (l + 1)) then n = m ∧ n ≠ 0 ∧ k else False
    | .v (.slice none 0 0) => m = 0 ∧ k
    | _ => False)
  | .ps l q y m =>
    (match a with
    | .ps i o z n => bif Nat.beq i (nget rn l) && (Nat.beq o q && Nat.beq z y) then n = m ∧ k else False
    | .rs i n | .os i n => bif Nat.beq i (nget rn l) && Nat.beq q 0 then n = m ∧ k else False
    | .v (.slice none 0 0) => m = 0 ∧ k
    | _ => False)
  | .sl l q y m => (match a with | .sl i o z n => bif Nat.beq i (nget rn l) && (Nat.beq (i + 1) (nget rn (l + 1)) && (Nat.beq o q && Nat.beq z y)) then n = m ∧ k else False | _ => False)
  | b => a.leR rn b ∧ k
theorem AV.leA_of {rn : List Nat} {a b : AV} {k : Prop} : a.leA rn b k → a.leR rn b ∧ k := by
  unfold AV.leA
  intro h
  split at h
  · exact ⟨by cases a <;> trivial, h⟩
  · split at h
    · rw [bif_iff] at h
      obtain ⟨h1, h2, h3⟩ := h
      simp only [decide_eq_true_eq] at h1
      exact ⟨by rw [h1, h2]; exact rfl, h3⟩
    · exact h.elim
  · split at h
    · exact ⟨by rw [h.1]; exact rfl, h.2⟩
    · exact h.elim
  · split at h
    · exact ⟨by rw [h.1]; exact rfl, h.2⟩
    · exact h.elim
  · split at h
    · rw [bif_iff] at h
      obtain ⟨h1, h2⟩ := h
      simp only [Bool.and_eq_true] at h1
      exact ⟨⟨Nat.eq_of_beq_eq_true h1.1, Nat.eq_of_beq_eq_true h1.2⟩, h2⟩
    · exact h.elim
  · split at h
    · rw [bif_iff] at h
      obtain ⟨h1, h2, h3⟩ := h
      simp only [Bool.and_eq_true] at h1
      exact ⟨⟨⟨Nat.eq_of_beq_eq_true h1.1, Nat.eq_of_beq_eq_true h1.2⟩, h2⟩, h3⟩
    · exact h.elim
  · split at h
    · rw [bif_iff] at h
      obtain ⟨h1, h2, h3⟩ := h
      simp only [Bool.and_eq_true] at h1
      exact ⟨⟨⟨Nat.eq_of_beq_eq_true h1.1, Nat.eq_of_beq_eq_true h1.2⟩, h2⟩, h3⟩
    · rw [bif_iff] at h
      obtain ⟨h1, h2, h3, h4⟩ := h
      simp only [Bool.and_eq_true] at h1
      exact ⟨⟨⟨Nat.eq_of_beq_eq_true h1.1, Nat.eq_of_beq_eq_true h1.2⟩, h2, h3⟩, h4⟩
    · exact ⟨⟨rfl, h.1⟩, h.2⟩
    · exact h.elim
  · split at h
    · rw [bif_iff] at h
      obtain ⟨h1, h2, h3⟩ := h
      simp only [Bool.and_eq_true] at h1
      exact ⟨⟨Nat.eq_of_beq_eq_true h1.1, ⟨Nat.eq_of_beq_eq_true h1.2.1, Nat.eq_of_beq_eq_true h1.2.2⟩, h2⟩, h3⟩
    · rw [bif_iff] at h
      obtain ⟨h1, h2, h3⟩ := h
      simp only [Bool.and_eq_true] at h1
      exact ⟨⟨Nat.eq_of_beq_eq_true h1.1, Nat.eq_of_beq_eq_true h1.2, h2⟩, h3⟩
    · rw [bif_iff] at h
      obtain ⟨h1, h2, h3⟩ := h
      simp only [Bool.and_eq_true] at h1
      exact ⟨⟨Nat.eq_of_beq_eq_true h1.1, Nat.eq_of_beq_eq_true h1.2, h2⟩, h3⟩
    · exact ⟨⟨rfl, h.1⟩, h.2⟩
    · exact h.elim
  · split at h
    · rw [bif_iff] at h
      obtain ⟨h1, h2, h3⟩ := h
      simp only [Bool.and_eq_true] at h1
      exact ⟨⟨⟨Nat.eq_of_beq_eq_true h1.1, Nat.eq_of_beq_eq_true h1.2.1⟩, ⟨Nat.eq_of_beq_eq_true h1.2.2.1, Nat.eq_of_beq_eq_true h1.2.2.2⟩, h2⟩, h3⟩
    · exact h.elim
  · exact h
def tmLeR (rn : List Nat) : List AV → List AV → Prop
  | [], [] => True
  | a :: l, b :: m => a.leR rn b ∧ tmLeR rn l m
  | _, _ => False
def tmLeK (rn : List Nat) (k : Prop) : List AV → List AV → Prop
  | [], [] => k
  | a :: l, b :: m => a.leA rn b (tmLeK rn k l m)
  | _, _ => False
theorem tmLeK_of {rn : List Nat} {k : Prop} : ∀ {l m : List AV}, tmLeK rn k l m → tmLeR rn l m ∧ k
  | [], [], h => ⟨trivial, h⟩
  | _ :: _, _ :: _, h => by
    obtain ⟨h1, h2⟩ := AV.leA_of h
    obtain ⟨h3, h4⟩ := tmLeK_of h2
    exact ⟨⟨h1, h3⟩, h4⟩
  | [], _ :: _, h => h.elim
  | _ :: _, [], h => h.elim
def ren (rn : List Nat) (ρ : Nat → Option Nat) : Nat → Option Nat := fun i => if i < rn.length then some ((ρ (nget rn i)).getD 0) else none
theorem ren_get {rn : List Nat} {ρ : Nat → Option Nat} {i n : Nat} (hi : i < rn.length) (h : ρ (nget rn i) = some n) : ren rn ρ i = some n := by
  unfold ren
  rw [if_pos hi, h]
  rfl
theorem AV.leR_R {rn : List Nat} {a b : AV} (h : a.leR rn b) (hf : avFits rn.length b = true) {v : Value} (hr : a.R ρ v) : b.R (ren rn ρ) v := by
  cases b with
  | any => trivial
  | v y => cases a <;> simp only [AV.leR] at h; subst h; exact hr
  | p l q =>
    cases a <;> simp only [AV.leR] at h
    obtain ⟨rfl, rfl⟩ := h
    obtain ⟨n, h1, rfl⟩ := hr
    exact ⟨n, ren_get (Nat.le_of_ble_eq_true hf) h1, rfl⟩
  | c g m =>
    cases a <;> simp only [AV.leR] at h
    obtain ⟨rfl, rfl⟩ := h
    obtain ⟨r, h1, rfl⟩ := hr
    refine ⟨r, ?_, rfl⟩
    simp only [avFits] at hf
    induction m generalizing r with
    | nil => exact h1
    | cons q l ih =>
      obtain ⟨k, o⟩ := q
      simp only [List.all_cons, Bool.and_eq_true] at hf
      simp only [List.map_cons, ptrs] at h1 ⊢
      cases e1 : ρ (nget rn k) with
      | none => simp [e1] at h1
      | some b =>
        cases e2 : ptrs ρ (l.map fun q => (nget rn q.1, q.2)) with
        | none => simp [e1, e2] at h1
        | some r' =>
          simp [e1, e2] at h1
          rw [ren_get (Nat.le_of_ble_eq_true hf.1) e1, ih hf.2 r' e2]
          simp [h1]
  | s l q m y =>
    cases a <;> simp only [AV.leR] at h
    obtain ⟨⟨rfl, rfl⟩, rfl, rfl⟩ := h
    obtain ⟨n, h1, rfl⟩ := hr
    exact ⟨n, ren_get (Nat.le_of_ble_eq_true hf) h1, rfl⟩
  | e l q m y =>
    cases a <;> simp only [AV.leR] at h
    obtain ⟨⟨rfl, rfl⟩, rfl, rfl⟩ := h
    obtain ⟨n, h1, rfl⟩ := hr
    exact ⟨n, ren_get (Nat.le_of_ble_eq_true hf) h1, rfl⟩
  | rs l m =>
    cases a <;> simp only [AV.leR] at h
    obtain ⟨⟨rfl, h2⟩, rfl⟩ := h
    obtain ⟨n, c, h3, h4, rfl⟩ := hr
    have hf := Nat.le_of_ble_eq_true hf
    exact ⟨n, c, ren_get (by omega) h3, ⟨ren_get hf (by rw [← h2]; exact h4.1), h4.2⟩, rfl⟩
  | os l m =>
    have hf' : l + 1 < rn.length := Nat.le_of_ble_eq_true hf
    cases a <;> simp only [AV.leR] at h
    · obtain ⟨rfl, rfl⟩ := h
      exact ⟨fun _ => hr, fun q => absurd rfl q⟩
    · obtain ⟨⟨rfl, h2⟩, rfl, h0⟩ := h
      obtain ⟨n, c, h3, h4, rfl⟩ := hr
      exact ⟨fun q => absurd q h0, fun _ => ⟨n, c, ren_get (by omega) h3, ⟨ren_get hf' (by rw [← h2]; exact h4.1), h4.2⟩, rfl⟩⟩
    · obtain ⟨⟨rfl, h2⟩, rfl⟩ := h
      refine ⟨hr.1, fun q => ?_⟩
      obtain ⟨n, c, h3, h4, h5⟩ := hr.2 q
      exact ⟨n, c, ren_get (by omega) h3, ⟨ren_get hf' (by rw [← h2]; exact h4.1), h4.2⟩, h5⟩
  | ps l q y m =>
    cases a <;> simp only [AV.leR] at h
    · obtain ⟨rfl, rfl⟩ := h
      exact ⟨fun _ => ⟨none, 0, hr⟩, fun q => absurd rfl q⟩
    · obtain ⟨rfl, rfl, rfl⟩ := h
      obtain ⟨n, c, h3, h4, rfl⟩ := hr
      exact ⟨fun q => ⟨_, _, by rw [q]⟩, fun _ => ⟨n, c, ren_get (Nat.le_of_ble_eq_true hf) h3, h4.2, by rw [Nat.zero_mul]⟩⟩
    · obtain ⟨rfl, rfl, rfl⟩ := h
      refine ⟨fun q => ⟨none, 0, hr.1 q⟩, fun q => ?_⟩
      obtain ⟨n, c, h3, h4, h5⟩ := hr.2 q
      exact ⟨n, c, ren_get (Nat.le_of_ble_eq_true hf) h3, h4.2, by rw [Nat.zero_mul]; exact h5⟩
    · obtain ⟨rfl, ⟨rfl, rfl⟩, rfl⟩ := h
      refine ⟨hr.1, fun q => ?_⟩
      obtain ⟨n, c, h3, h5⟩ := hr.2 q
      exact ⟨n, c, ren_get (Nat.le_of_ble_eq_true hf) h3, h5⟩
  | sl l q y m =>
    have hf' : l + 1 < rn.length := Nat.le_of_ble_eq_true hf
    cases a <;> simp only [AV.leR] at h
    obtain ⟨⟨rfl, h2⟩, ⟨rfl, rfl⟩, rfl⟩ := h
    refine ⟨hr.1, fun q => ?_⟩
    obtain ⟨n, c, off, h3, h4, h5⟩ := hr.2 q
    exact ⟨n, c, off, ren_get (by omega) h3, ⟨ren_get hf' (by rw [← h2]; exact h4.1), h4.2⟩, h5⟩
  | fe l q y m =>
    have hf' : l + 1 < rn.length := Nat.le_of_ble_eq_true hf
    cases a <;> simp only [AV.leR] at h
    obtain ⟨⟨rfl, h2⟩, ⟨rfl, rfl⟩, rfl⟩ := h
    obtain ⟨n, off, h3, h4, h5⟩ := hr
    exact ⟨n, off, ren_get (by omega) h3, ren_get hf' (by rw [← h2]; exact h4), h5⟩
  | ag l => simp [avFits] at hf
  | tu l => simp [avFits] at hf
theorem tmLeR_length {rn : List Nat} : ∀ {l m : List AV}, tmLeR rn l m → l.length = m.length
  | [], [], _ => rfl
  | _ :: l, _ :: m, h => by simp [tmLeR_length h.2]
  | [], _ :: _, h => h.elim
  | _ :: _, [], h => h.elim
theorem tmLeR_get {rn : List Nat} : ∀ {l m : List AV}, tmLeR rn l m → ∀ i, (lget l i).leR rn (lget m i)
  | [], [], _, i => by simp [lget, AV.leR]
  | _ :: l, _ :: m, h, 0 => h.1
  | _ :: l, _ :: m, h, i + 1 => tmLeR_get h.2 i
  | [], _ :: _, h, _ => h.elim
  | _ :: _, [], h, _ => h.elim
theorem RT.lessR {rn : List Nat} {tm tm' : List AV} {t : Array Value} (h : RT ρ tm t) (hl : tmLeR rn tm tm') (hf : tmFits rn.length tm' = true) : RT (ren rn ρ) tm' t :=
  ⟨by rw [← tmLeR_length hl]; exact h.1, fun i => AV.leR_R (tmLeR_get hl i) (tmFits_get hf i) (h.2 i)⟩
def ghost (b : Blk) : Prop := match b.row with | some r => r.held = false ∧ r.xs = [] | none => False
def rowRen (rn : List Nat) (i : Nat) (b : Blk) : Bool := match b.row with | none => true | some _ => Nat.beq (nget rn (i + 1)) (nget rn i + 1) && Nat.blt (i + 1) rn.length
def blkLeR (rn : List Nat) (i : Nat) (a b : Blk) : Prop := (a.T = b.T ∧ a.own = b.own) ∧ tmLeR rn a.cs b.cs ∧ rowLe a.row b.row ∧ rowRen rn i b = true ∧ tmFits rn.length b.cs = true
def hpLeR (rn : List Nat) (hp : List Blk) : Nat → List Blk → Prop
  | _, [] => True
  | i, b :: m => (match b.own with | none => True | some _ => match hp[nget rn i]? with | some a => blkLeR rn i a b | none => ghost b) ∧ hpLeR rn hp (i + 1) m
def rowLeK (k : Prop) : Option Row → Option Row → Prop
  | none, none => k
  | some r, some q => match decEq r.t q.t with | .isTrue h => castRow h r.xs = q.xs ∧ (bif !q.held || r.held then k else False) | .isFalse _ => False
  | _, _ => False
theorem rowLeK_of {k : Prop} {a b : Option Row} (h : rowLeK k a b) : rowLe a b ∧ k := by
  unfold rowLeK at h
  split at h
  · exact ⟨trivial, h⟩
  · rename_i r q
    split at h
    · rename_i e _
      obtain ⟨h1, h2⟩ := h
      rw [bif_iff] at h2
      obtain ⟨t, xs, g⟩ := r
      obtain ⟨t', ys, g'⟩ := q
      simp only at e h1 h2
      subst e
      have h1 : xs = ys := h1
      subst h1
      exact ⟨⟨rfl, fun e => by simp only at e ⊢; subst e; simpa using h2.1⟩, h2.2⟩
    · exact h.elim
  · exact h.elim
def ownB : Option Bool → Option Bool → Bool
  | some a, some b => a == b
  | none, none => true
  | _, _ => false
theorem ownB_eq {a b : Option Bool} (h : ownB a b = true) : a = b := by
  cases a <;> cases b <;> simp_all [ownB]
def blkOk (rn : List Nat) (i : Nat) (a b : Blk) : Bool := Nat.beq a.T b.T && (ownB a.own b.own && (rowRen rn i b && tmFits rn.length b.cs))
def ghostK (b : Blk) (k : Prop) : Prop := match b.row with | some r => bif !r.held then r.xs = [] ∧ k else False | none => False
def hpLeK (rn : List Nat) (hp : List Blk) (k : Prop) : Nat → List Blk → Prop
  | _, [] => k
  | i, b :: m =>
    match b.own with
    | none => hpLeK rn hp k (i + 1) m
    | some _ =>
      match hp[nget rn i]? with
      | some a => bif blkOk rn i a b then tmLeK rn (rowLeK (hpLeK rn hp k (i + 1) m) a.row b.row) a.cs b.cs else False
      | none => ghostK b (hpLeK rn hp k (i + 1) m)
theorem hpLeK_of {rn : List Nat} {hp : List Blk} {k : Prop} : ∀ {m : List Blk} {i : Nat}, hpLeK rn hp k i m → hpLeR rn hp i m ∧ k
  | [], _, h => ⟨trivial, h⟩
  | b :: m, i, h => by
    unfold hpLeK at h
    unfold hpLeR
    cases ho : b.own with
    | none =>
      simp only [ho] at h ⊢
      obtain ⟨h1, h2⟩ := hpLeK_of h
      exact ⟨⟨trivial, h1⟩, h2⟩
    | some ob =>
      simp only [ho] at h ⊢
      cases ha : hp[nget rn i]? with
      | some a =>
        simp only [ha] at h ⊢
        rw [bif_iff] at h
        obtain ⟨h0, h⟩ := h
        obtain ⟨h1, h⟩ := tmLeK_of h
        obtain ⟨h2, h⟩ := rowLeK_of h
        obtain ⟨h3, h4⟩ := hpLeK_of h
        unfold blkOk at h0
        simp only [Bool.and_eq_true] at h0
        obtain ⟨e1, e2, e3, e4⟩ := h0
        exact ⟨⟨⟨⟨Nat.eq_of_beq_eq_true e1, ownB_eq e2⟩, h1, h2, e3, e4⟩, h3⟩, h4⟩
      | none =>
        simp only [ha] at h ⊢
        unfold ghostK at h
        unfold ghost
        cases hr : b.row with
        | none => simp only [hr] at h
        | some r =>
          simp only [hr] at h ⊢
          rw [bif_iff] at h
          obtain ⟨h1, h2, h3⟩ := h
          obtain ⟨h4, h5⟩ := hpLeK_of h3
          exact ⟨⟨⟨by simpa using h1, h2⟩, h4⟩, h5⟩
theorem hpLeR_get {rn : List Nat} {hp : List Blk} : ∀ {m : List Blk} {i0 : Nat}, hpLeR rn hp i0 m → ∀ {k : Nat} {b : Blk}, m[k]? = some b → b.live → ∃ a, hp[nget rn (i0 + k)]? = some a ∧ blkLeR rn (i0 + k) a b
  | [], _, _, k, b, hb, _ => by simp at hb
  | c :: m, i0, h, 0, b, hb, hl => by
    simp at hb
    subst hb
    have h1 := h.1
    cases ho : c.own with
    | none => exact absurd ho hl.1
    | some ob =>
      rw [ho] at h1
      simp only at h1
      cases e : hp[nget rn i0]? with
      | some a => rw [e] at h1; exact ⟨a, rfl, h1⟩
      | none =>
        rw [e] at h1
        unfold ghost at h1
        cases hr : c.row with
        | none => rw [hr] at h1; exact h1.elim
        | some r =>
          rw [hr] at h1
          rcases hl.2 r hr with q | q
          · rw [h1.1] at q; cases q
          · exact absurd h1.2 q
  | c :: m, i0, h, k + 1, b, hb, hl => by
    have := hpLeR_get h.2 (k := k) (by simpa using hb) hl
    rwa [show i0 + 1 + k = i0 + (k + 1) by omega] at this
def injR (rn : List Nat) : Nat → List Blk → List Nat → Bool
  | _, [], _ => true
  | i, b :: m, seen => bif b.own.isSome then !memN (nget rn i) seen && injR rn (i + 1) m (nget rn i :: seen) else injR rn (i + 1) m seen
theorem injR_lt {rn : List Nat} : ∀ {m : List Blk} {i0 : Nat} {seen : List Nat}, injR rn i0 m seen = true → ∀ {k : Nat} {b : Blk}, m[k]? = some b → b.own ≠ none → nget rn (i0 + k) ∉ seen
  | [], _, _, _, k, b, hb, _ => by simp at hb
  | c :: m, i0, seen, h, k, b, hb, ho => by
    unfold injR at h
    cases hc : c.own.isSome with
    | false =>
      simp only [hc, cond_false] at h
      cases k with
      | zero => simp at hb; subst hb; cases e : c.own <;> simp_all
      | succ k =>
        have := injR_lt h (k := k) (by simpa using hb) ho
        rwa [show i0 + 1 + k = i0 + (k + 1) by omega] at this
    | true =>
      simp only [hc, cond_true, Bool.and_eq_true, Bool.not_eq_true'] at h
      cases k with
      | zero => exact memN_iff h.1
      | succ k =>
        have := injR_lt h.2 (k := k) (by simpa using hb) ho
        rw [show i0 + 1 + k = i0 + (k + 1) by omega] at this
        exact fun q => this (List.mem_cons_of_mem _ q)
theorem injR_ne {rn : List Nat} : ∀ {m : List Blk} {i0 : Nat} {seen : List Nat}, injR rn i0 m seen = true → ∀ {j k : Nat} {b c : Blk}, j < k → m[j]? = some b → m[k]? = some c → b.own ≠ none → c.own ≠ none → nget rn (i0 + j) ≠ nget rn (i0 + k)
  | [], _, _, _, j, k, b, c, _, hb, _, _, _ => by simp at hb
  | d :: m, i0, seen, h, j, k + 1, b, c, hjk, hb, hc, ob, oc => by
    unfold injR at h
    cases j with
    | zero =>
      simp at hb
      subst hb
      have hd : d.own.isSome = true := by cases e : d.own <;> simp_all
      simp only [hd, cond_true, Bool.and_eq_true] at h
      have := injR_lt h.2 (k := k) (by simpa using hc) oc
      rw [show i0 + 1 + k = i0 + (k + 1) by omega] at this
      exact fun q => this (by rw [← q]; simp)
    | succ j =>
      have hr : ∃ seen', injR rn (i0 + 1) m seen' = true := by
        cases hd : d.own.isSome with
        | false => simp only [hd, cond_false] at h; exact ⟨_, h⟩
        | true => simp only [hd, cond_true, Bool.and_eq_true] at h; exact ⟨_, h.2⟩
      obtain ⟨seen', hr⟩ := hr
      have := injR_ne hr (j := j) (k := k) (by omega) (by simpa using hb) (by simpa using hc) ob oc
      rwa [show i0 + 1 + k = i0 + (k + 1) by omega, show i0 + 1 + j = i0 + (j + 1) by omega] at this
theorem Rel.lessR {rn : List Nat} (h : Rel B w0 ρ (hpF hp) w) {hp' : List Blk} (hl : hpLeR rn hp 0 hp') (hn : rn.length = hp'.length) (hi : injR rn 0 hp' [] = true) : Rel B w0 (ren rn ρ) (hpF hp') w := by
  have hlen := hn
  have sub : ∀ {i b : Nat} {x : Blk}, ren rn ρ i = some b → hpF hp' i = some x → x.live → ∃ a, hp[nget rn i]? = some a ∧ blkLeR rn i a x ∧ a.live ∧ ρ (nget rn i) = some b := fun {i b x} e hx lx => by
    obtain ⟨a, ha, hle⟩ := hpLeR_get hl (k := i) (b := x) hx lx
    rw [Nat.zero_add] at ha hle
    obtain ⟨n, hn⟩ := h.lies _ a ha
    have hlt : i < rn.length := by rw [hlen]; exact (List.getElem?_eq_some_iff.1 hx).1
    rw [ren_get hlt hn] at e
    cases e
    exact ⟨a, ha, hle, rowLe_live hle.1.2 hle.2.2.1 lx, hn⟩
  refine ⟨h.below, h.base, fun k hk => ?_, fun i j b x y hi' hj hx hy lx ly => ?_, fun k b x hk hx hlx => ?_, fun k x hx => ?_, h.keeps⟩
  · unfold ren
    rw [if_neg]
    intro hlt
    have : hp'[k]? = none := hk
    rw [hn, ] at hlt
    rw [List.getElem?_eq_getElem hlt] at this
    cases this
  · obtain ⟨a, ha, _, la, ra⟩ := sub hi' hx lx
    obtain ⟨c, hc, bc, lc, rc⟩ := sub hj hy ly
    intro oy
    have e := h.inj _ _ b a c ra rc ha hc la lc (by rw [bc.1.2]; exact oy)
    rcases Nat.lt_trichotomy i j with q | q | q
    · have := injR_ne hi q hx hy lx.1 ly.1
      simp only [Nat.zero_add] at this
      exact absurd e this
    · exact q
    · have := injR_ne hi q hy hx ly.1 lx.1
      simp only [Nat.zero_add] at this
      exact absurd e.symm this
  · obtain ⟨y, hy, ⟨⟨e1, e0⟩, e2, e4, e5, e6⟩, ly, ry⟩ := sub hk hx hlx
    obtain ⟨h0, cs, ⟨T', fz, h1, h3⟩, h2⟩ := h.blk _ b y ry hy ly
    have e3 := tmLeR_length e2
    refine ⟨by rw [← e0]; exact h0, cs, ⟨T', fz, h1, by rw [← e0, ← e1]; exact h3⟩, ?_⟩
    unfold Blk.fit at *
    cases hx1 : x.row with
    | none =>
      have hy1 : y.row = none := by rw [hx1] at e4; cases e : y.row with
        | none => rfl
        | some r => rw [e] at e4; exact e4.elim
      rw [hy1] at h2
      simp only
      refine ⟨by rw [← e3]; exact h2.1, fun o ho => ?_⟩
      exact AV.leR_R (tmLeR_get e2 o) (tmFits_get e6 o) (h2.2 o (by omega))
    | some r =>
      obtain ⟨q, hy1, hq⟩ : ∃ q : Row, y.row = some q ∧ (⟨q.t, q.xs, r.held⟩ : Row) = r := by rw [hx1] at e4; cases e : y.row with
        | none => rw [e] at e4; exact e4.elim
        | some q => rw [e] at e4; exact ⟨q, rfl, e4.1⟩
      rw [hy1] at h2
      obtain ⟨qt, xs, g⟩ := q
      obtain ⟨rt, xs', g'⟩ := r
      cases hq
      unfold rowRen at e5
      rw [hx1] at e5
      simp only [Bool.and_eq_true] at e5
      rw [e0] at h2
      have hren : ∀ {c}, ρ (nget rn k + 1) = some c → ren rn ρ (k + 1) = some c := fun {c} hc => ren_get (Nat.le_of_ble_eq_true e5.2) (by rw [Nat.eq_of_beq_eq_true e5.1]; exact hc)
      cases eo : x.own with
      | none => simp only [eo] at h2 ⊢; obtain ⟨c, hc, h3⟩ := h2; exact ⟨c, hren hc, h3⟩
      | some o => cases o <;> simp only [eo] at h2 ⊢ <;> obtain ⟨c, hc, h3⟩ := h2 <;> exact ⟨c, hren hc, h3⟩
  · have hx' : hp'[k]? = some x := hx
    have hlt : k < rn.length := by rw [hn]; exact (List.getElem?_eq_some_iff.1 hx').1
    exact ⟨_, by unfold ren; rw [if_pos hlt]⟩
def pairsAV : AV → AV → List (Nat × Nat)
  | .p k _, .p l _ => [(l, k)]
  | .s k _ _ _, .s l _ _ _ => [(l, k)]
  | .e k _ _ _, .e l _ _ _ => [(l, k)]
  | .rs k _, .rs l _ | .rs k _, .os l _ | .os k _, .os l _ | .rs k _, .ps l _ _ _ | .os k _, .ps l _ _ _ | .ps k _ _ _, .ps l _ _ _ => [(l, k), (l + 1, k + 1)]
  | .sl k _ _ _, .sl l _ _ _ | .fe k _ _ _, .fe l _ _ _ => [(l, k), (l + 1, k + 1)]
  | .c _ l, .c _ m => List.zipWith (fun a b => (b.1, a.1)) l m
  | _, _ => []
def pairsL : List AV → List AV → List (Nat × Nat)
  | a :: l, b :: m => pairsAV a b ++ pairsL l m
  | _, _ => []
def cellPairs : Nat → List Blk → List Blk → List (Nat × Nat)
  | n + 1, a :: l, b :: m => (match b.own with | some _ => pairsL a.cs b.cs | none => []) ++ cellPairs n l m
  | _, _, _ => []
def findP (d i : Nat) : List (Nat × Nat) → Nat
  | [] => d
  | (l, k) :: r => bif Nat.beq l i then k else findP d i r
def renL (n0 d : Nat) (ps : List (Nat × Nat)) : Nat → Nat → List Nat
  | _, 0 => []
  | i, c + 1 => (bif Nat.blt i n0 then i else findP d i ps) :: renL n0 d ps (i + 1) c
theorem renL_length (n0 d : Nat) (ps : List (Nat × Nat)) : ∀ (c i : Nat), (renL n0 d ps i c).length = c
  | 0, _ => rfl
  | c + 1, i => by simp [renL, renL_length n0 d ps c]
theorem renL_get (n0 d : Nat) (ps : List (Nat × Nat)) : ∀ (c i k : Nat), k < c → i + k < n0 → nget (renL n0 d ps i c) k = i + k
  | 0, _, _, h, _ => by omega
  | c + 1, i, 0, _, h => by
    have : Nat.blt i n0 = true := Nat.ble_eq_true_of_le (by rename_i h; omega)
    simp [renL, nget, this]
  | c + 1, i, k + 1, h, h2 => by
    simp only [renL, nget]
    rw [renL_get n0 d ps c (i + 1) k (by omega) (by omega)]
    omega
def renOf (n0 : Nat) (st t : AS) : List Nat := renL n0 st.hp.length (pairsL st.tm t.tm ++ cellPairs n0 st.hp t.hp) 0 t.hp.length
def stLeN (rn : List Nat) (st t : AS) : Prop := bif injR rn 0 t.hp [] && tmFits rn.length t.tm then tmLeK rn (hpLeK rn st.hp True 0 t.hp) st.tm t.tm else False
theorem stLeN_of {rn : List Nat} {st t : AS} (h : stLeN rn st t) : tmLeR rn st.tm t.tm ∧ hpLeR rn st.hp 0 t.hp ∧ (injR rn 0 t.hp [] && tmFits rn.length t.tm) = true := by
  unfold stLeN at h
  rw [bif_iff] at h
  obtain ⟨h1, h2⟩ := tmLeK_of h.2
  exact ⟨h1, (hpLeK_of h2).1, h.1⟩
def stLeR (n0 : Nat) (st t : AS) : Prop := stLeN (renOf n0 st t) st t
def keepG (l : List AV) (ks : List Nat) : Nat → Nat → List AV
  | _, 0 => []
  | i, c + 1 => (bif memN i ks then lget l i else .any) :: keepG l ks (i + 1) c
def keepA (st : AS) (n : Nat) (ks : List Nat) : List AV := keepG st.tm ks 0 n
def intA (st : AS) (i : Nat) : Int := match lget st.tm i with | .v (.int _ x) => x | _ => 0
def cellA (st : AS) (k j : Nat) : AV := match st.hp[k]? with | some b => lget b.cs j | none => .v undef
def cellI (st : AS) (k j : Nat) : Int := match cellA st k j with | .v (.int _ x) => x | _ => 0
def setCs (st : AS) (k : Nat) (l : List AV) : List Blk := match st.hp[k]? with | some b => bset st.hp k ⟨b.T, l, b.own, b.row⟩ | none => st.hp
structure Ann where
  σ : Type
  st : AS → σ → AS
  inv : AS → σ → Prop
  μ : AS → σ → Nat
inductive X where
  | normal
  | exit (id : Nat)
  | ret
def X.out : X → Exit
  | .normal => .normal
  | .exit id => .exit id
  | .ret => .ret
inductive LoopBy where
  | ann (a : Ann)
  | times (n : Nat)
  | annJ (a j : Ann)
  | timesJ (n : Nat) (j : Ann)
  | join (j : Ann)
  | after (n : Nat) (a : Ann)
  | afterJ (n : Nat) (a j : Ann)
def annOf (A : List (Nat × LoopBy)) (n : Nat) : Option LoopBy :=
  match A with
  | [] => none
  | (m, a) :: l => bif Nat.beq m n then some a else annOf l n
def loopOf (A : List (Nat × LoopBy)) (n : Nat) : Option LoopBy :=
  match annOf A n with
  | some (.ann a) | some (.annJ a _) => some (.ann a)
  | some (.times n) | some (.timesJ n _) => some (.times n)
  | some (.after n a) | some (.afterJ n a _) => some (.after n a)
  | _ => none
def joinOf (A : List (Nat × LoopBy)) (n : Nat) : Option Ann :=
  match annOf A n with
  | some (.annJ _ j) | some (.timesJ _ j) | some (.join j) | some (.afterJ _ _ j) => some j
  | _ => none
def thenX (K : X → AS → Prop) (next : AS → Prop) : X → AS → Prop
  | .normal, st => next st
  | e, st => K e st
def blockX (id : Nat) (K : X → AS → Prop) : X → AS → Prop
  | .exit i, st => bif Nat.beq i id then K .normal st else K (.exit i) st
  | e, st => K e st
def unroll (body : AS → (X → AS → Prop) → Prop) (K : X → AS → Prop) : Nat → AS → Prop
  | 0, _ => False
  | n + 1, st => body st (thenX K (unroll body K n))
def unrollA (body : AS → (X → AS → Prop) → Prop) (K : X → AS → Prop) (fin : AS → Prop) : Nat → AS → Prop
  | 0, st => fin st
  | n + 1, st => body st (thenX K (unrollA body K fin n))
def codeX (P : Program) (Γ : List (FuncId × CSpec)) (inl : Inl) (A : List (Nat × LoopBy)) : Nat → Code → AS → (X → AS → Prop) → Prop
  | _, .skip, st, K => K .normal st
  | _, .label _, st, K => K .normal st
  | _, .region _ ops draw, st, K =>
    bif draw then
      bif P.follows .mixedOrders && Region.lexB .any ops then
        (bif lastB .any ops.toList then dopsX P Γ ops ops.toList (initL ops.toList) [] st (fun st' => opsX P Γ inl ops.toList (lastL ops.toList) st' (K .normal))
        else dopsX P Γ ops ops.toList ops.toList [] st (K .normal)) else False
    else opsX P Γ inl ops.toList ops.toList st (K .normal)
  | cur, .seq a b, st, K => codeX P Γ inl A cur a st (thenX K fun st' => codeX P Γ inl A cur b st' K)
  | cur, .cond c x y, st, K =>
    match ev st.tm c with
    | .v (.bool b) =>
      match c with
      | .tmp t => bcase b (codeX P Γ inl A cur x ⟨lset st.tm t (.v (.bool true)), st.hp⟩ K) (codeX P Γ inl A cur y ⟨lset st.tm t (.v (.bool false)), st.hp⟩ K)
      | _ => bcase b (codeX P Γ inl A cur x st K) (codeX P Γ inl A cur y st K)
    | _ => False
  | _, .block id c, st, K =>
    match joinOf A id with
    | some j => (∀ s, j.inv st s → (bif Nat.ble st.hp.length (j.st st s).hp.length then K .normal (j.st st s) else False)) ∧
        codeX P Γ inl A id c st (blockX id (thenX K fun st' => ∃ s, stLeR st.hp.length st' (j.st st s) ∧ j.inv st s))
    | none => codeX P Γ inl A id c st (blockX id K)
  | cur, .loop c, st, K =>
    match loopOf A cur with
    | some (.times n) => unroll (fun st K => codeX P Γ inl A cur c st K) K n st
    | some (.after n a) => unrollA (fun st K => codeX P Γ inl A cur c st K) K (fun st => ∃ s, stLeR st.hp.length st (a.st st s) ∧ a.inv st s ∧ ∀ s, a.inv st s → (bif Nat.ble st.hp.length (a.st st s).hp.length then
        codeX P Γ inl A cur c (a.st st s) (thenX K fun st' => ∃ s', stLeR st.hp.length st' (a.st st s') ∧ a.inv st s' ∧ a.μ st s' < a.μ st s) else False)) n st
    | some (.ann a) => ∃ s, stLeR st.hp.length st (a.st st s) ∧ a.inv st s ∧ ∀ s, a.inv st s → (bif Nat.ble st.hp.length (a.st st s).hp.length then
        codeX P Γ inl A cur c (a.st st s) (thenX K fun st' => ∃ s', stLeR st.hp.length st' (a.st st s') ∧ a.inv st s' ∧ a.μ st s' < a.μ st s) else False)
    | _ => False
  | _, .exit id, st, K => K (.exit id) st
  | _, .ret, st, K => K .ret st
  | _, _, _, _ => False
theorem wp_loopL {Q : Exit → Act → World → Prop} {c : Code} (M : Nat → Nat → Act → World → Prop)
    (round : ∀ n m a w, M n m a w → c.wp P (Exit.then (fun a' w' => ∃ n' m', (n' < n ∨ n' = n ∧ m' < m) ∧ M n' m' a' w') Q) a w) {n m : Nat} {a : Act} {w : World} (h₀ : M n m a w) : (Code.loop c).wp P Q a w := by
  intro b k cs
  have key : ∀ n m a w, M n m a w → ∃ e a' w', Q e a' w' ∧ Arrives P (lone (b.at a (.code c :: .inLoop c :: k)) cs w) b k cs e a' w' := by
    intro n
    induction n using Nat.strongRecOn with
    | _ n ihn =>
      intro m
      induction m using Nat.strongRecOn with
      | _ m ihm =>
        intro a w hI
        obtain ⟨e, a₁, w₁, hq, harr⟩ := round n m a w hI b (.inLoop c :: k) cs
        cases e with
        | normal =>
          obtain ⟨n', m', hlt, hI₁⟩ := hq
          have : ∃ e a' w', Q e a' w' ∧ Arrives P (lone (b.at a₁ (.code c :: .inLoop c :: k)) cs w₁) b k cs e a' w' := by
            rcases hlt with h | ⟨rfl, h⟩
            · exact ihn n' h m' a₁ w₁ hI₁
            · exact ihm m' h a₁ w₁ hI₁
          obtain ⟨e₂, a₂, w₂, hq₂, harr₂⟩ := this
          exact ⟨e₂, a₂, w₂, hq₂, .of_steps (Steps.trans harr (.one step_inLoop)) harr₂⟩
        | exit id => exact ⟨_, a₁, w₁, hq, .pass (x := .inLoop c) rfl (fun _ _ => .inl (by simp)) harr⟩
        | goto l => exact ⟨_, a₁, w₁, hq, .pass (x := .inLoop c) rfl (fun _ _ => .inl (by simp)) harr⟩
        | ret => exact ⟨_, a₁, w₁, hq, .pass (x := .inLoop c) rfl (fun _ _ => .inl (by simp)) harr⟩
        | panic ch => exact ⟨_, a₁, w₁, hq, .pass (x := .inLoop c) rfl (fun _ _ => .inl (by simp)) harr⟩
        | outgrown => exact ⟨_, a₁, w₁, hq, .pass (x := .inLoop c) rfl (fun _ _ => .inl (by simp)) harr⟩
  obtain ⟨e, a', w', hq, harr⟩ := key n m a w h₀
  exact ⟨e, a', w', hq, .of_steps (.one step_loop) harr⟩
theorem wp_loop' {Q : Exit → Act → World → Prop} {c : Code} (M : Nat → Act → World → Prop)
    (round : ∀ n a w, M n a w → c.wp P (Exit.then (fun a' w' => ∃ m, m < n ∧ M m a' w') Q) a w) {n : Nat} {a : Act} {w : World} (h₀ : M n a w) : (Code.loop c).wp P Q a w := by
  intro b k cs
  have key : ∀ n a w, M n a w → ∃ e a' w', Q e a' w' ∧ Arrives P (lone (b.at a (.code c :: .inLoop c :: k)) cs w) b k cs e a' w' := by
    intro n
    induction n using Nat.strongRecOn with
    | _ n ih =>
      intro a w hI
      obtain ⟨e, a₁, w₁, hq, harr⟩ := round n a w hI b (.inLoop c :: k) cs
      cases e with
      | normal =>
        obtain ⟨m, hlt, hI₁⟩ := hq
        obtain ⟨e₂, a₂, w₂, hq₂, harr₂⟩ := ih m hlt a₁ w₁ hI₁
        exact ⟨e₂, a₂, w₂, hq₂, .of_steps (Steps.trans harr (.one step_inLoop)) harr₂⟩
      | exit id => exact ⟨_, a₁, w₁, hq, .pass (x := .inLoop c) rfl (fun _ _ => .inl (by simp)) harr⟩
      | goto l => exact ⟨_, a₁, w₁, hq, .pass (x := .inLoop c) rfl (fun _ _ => .inl (by simp)) harr⟩
      | ret => exact ⟨_, a₁, w₁, hq, .pass (x := .inLoop c) rfl (fun _ _ => .inl (by simp)) harr⟩
      | panic ch => exact ⟨_, a₁, w₁, hq, .pass (x := .inLoop c) rfl (fun _ _ => .inl (by simp)) harr⟩
      | outgrown => exact ⟨_, a₁, w₁, hq, .pass (x := .inLoop c) rfl (fun _ _ => .inl (by simp)) harr⟩
  obtain ⟨e, a', w', hq, harr⟩ := key n a w h₀
  exact ⟨e, a', w', hq, .of_steps (.one step_loop) harr⟩
def Post (B : Nat) (w0 : World) (ρ : Nat → Option Nat) (K : X → AS → Prop) (Q : Exit → Act → World → Prop) (ds : List Deferred := []) : Prop :=
  ∀ e st' a' w' ρ', Ext ρ ρ' → RT ρ' st'.tm a'.tmps → a'.defers = ds → Rel B w0 ρ' (hpF st'.hp) w' → K e st' → Q e.out a' w'
theorem stLeR_rel {hp0 : List Blk} {ρ0 : Nat → Option Nat} (hdom : ∀ k, hp0.length ≤ k → ρ0 k = none) {t st2 : AS} {a2 : Act} {w2 : World} {ρ2 : Nat → Option Nat} (e3 : Ext ρ0 ρ2) (h2 : RT ρ2 st2.tm a2.tmps) (h4 : Rel B w0 ρ2 (hpF st2.hp) w2)
    (q1 : stLeR hp0.length st2 t) (hn : Nat.ble hp0.length t.hp.length = true) : ∃ ρ', Ext ρ0 ρ' ∧ RT ρ' t.tm a2.tmps ∧ Rel B w0 ρ' (hpF t.hp) w2 := by
  obtain ⟨l1, l2, l3⟩ := stLeN_of q1
  simp only [Bool.and_eq_true] at l3
  have hlen : (renOf hp0.length st2 t).length = t.hp.length := renL_length _ _ _ _ _
  refine ⟨ren (renOf hp0.length st2 t) ρ2, fun k b e => ?_, h2.lessR l1 l3.2, h4.lessR l2 hlen l3.1⟩
  have e1 := Nat.le_of_ble_eq_true hn
  rcases Nat.lt_or_ge k hp0.length with q | q
  · refine ren_get (by omega) ?_
    unfold renOf
    rw [renL_get _ _ _ _ _ _ (by omega) (by omega), Nat.zero_add]
    exact e3 k b e
  · rw [hdom k q] at e; cases e
theorem codeX_sound {ds : List Deferred} {Φ : World → Prop} {Γ : List (FuncId × CSpec)} {inl : Inl} (hΓ : Sound P Φ Γ) (hΦ : ∀ w, Below B w0 w → B ≤ w.heap.size → Φ w) (hi : InlSound P B w0 inl) {A : List (Nat × LoopBy)} :
    ∀ (c : Code) (cur : Nat) {st : AS} {K : X → AS → Prop} {a : Act} {w : World} {ρ : Nat → Option Nat} {Q : Exit → Act → World → Prop},
      RT ρ st.tm a.tmps → a.defers = ds → Rel B w0 ρ (hpF st.hp) w → codeX P Γ inl A cur c st K → Post B w0 ρ K Q ds → c.wp P Q a w := by
  intro c
  induction c with
  | skip => intro cur st K a w ρ Q hT hd hR h hk; exact wp_skip (hk .normal st a w ρ (Ext.refl ρ) hT hd hR h)
  | label l => intro cur st K a w ρ Q hT hd hR h hk; exact wp_label (hk .normal st a w ρ (Ext.refl ρ) hT hd hR h)
  | ret => intro cur st K a w ρ Q hT hd hR h hk; exact wp_ret (hk .ret st a w ρ (Ext.refl ρ) hT hd hR h)
  | exit id => intro cur st K a w ρ Q hT hd hR h hk; exact wp_exit (hk (.exit id) st a w ρ (Ext.refl ρ) hT hd hR h)
  | region id ops draw =>
    intro cur st K a w ρ Q hT hd hR h hk
    cases draw with
    | false =>
      simp only [codeX, cond_false] at h
      refine wp_region ?_
      have := opsX_sound (Q := Q) hΓ hΦ hi ops.toList 0 (fun j => by simp) hT hd hR h (fun st' a' w' ρ' h1 h2 h3 h4 h5 => hk .normal st' a' w' ρ' h1 h2 h3 h4 h5)
      simpa [List.range_eq_range'] using this
    | true =>
      simp only [codeX, cond_true] at h
      cases hb : (P.follows .mixedOrders && Region.lexB .any ops) with
      | false => simp [hb] at h
      | true =>
        simp only [hb, cond_true] at h
        simp only [Bool.and_eq_true] at hb
        cases hl : lastB .any ops.toList with
        | true =>
          simp only [hl, cond_true] at h
          exact lregion_sound hΓ hΦ hi hb.1 hb.2 hl hT hd hR h fun st' a' w' ρ' h1 h2 h3 h4 h5 => hk .normal st' a' w' ρ' h1 h2 h3 h4 h5
        | false =>
        simp only [hl, cond_false] at h
        exact dregion_sound hΓ hΦ hb.1 hb.2 hT hd hR h fun st' a' w' ρ' h1 h2 h3 h4 h5 => hk .normal st' a' w' ρ' h1 h2 h3 h4 h5
  | seq x y ihx ihy =>
    intro cur st K a w ρ Q hT hd hR h hk
    simp only [codeX] at h
    refine wp_seq (ihx cur hT hd hR h ?_)
    intro e st' a' w' ρ' h1 h2 h3 h4 h5
    cases e with
    | normal => exact ihy cur h2 h3 h4 h5 fun e2 s2 a2 w2 ρ2 k1 k2 k3 k4 k5 => hk e2 s2 a2 w2 ρ2 (h1.trans k1) k2 k3 k4 k5
    | exit id => exact hk (.exit id) st' a' w' ρ' h1 h2 h3 h4 h5
    | ret => exact hk .ret st' a' w' ρ' h1 h2 h3 h4 h5
  | cond c x y ihx ihy =>
    intro cur st K a w ρ Q hT hd hR h hk
    simp only [codeX] at h
    have hc := ev_R hT c
    split at h
    · rename_i b hb
      rw [hb] at hc
      have hc : a.eval c = .bool b := hc
      split at h
      · rename_i t _
        have hkn := hT.known (d := t) hb
        cases b with
        | true => exact wp_cond_true hc (ihx cur (st := ⟨lset st.tm t (.v (.bool true)), st.hp⟩) hkn hd hR h hk)
        | false => exact wp_cond_false hc (ihy cur (st := ⟨lset st.tm t (.v (.bool false)), st.hp⟩) hkn hd hR h hk)
      · cases b with
        | true => exact wp_cond_true hc (ihx cur hT hd hR h hk)
        | false => exact wp_cond_false hc (ihy cur hT hd hR h hk)
    · exact h.elim
  | block id c ih =>
    intro cur st K a w ρ Q hT hd hR h hk
    simp only [codeX] at h
    have main : ∀ {K' : X → AS → Prop}, codeX P Γ inl A id c st (blockX id K') → Post B w0 ρ K' Q ds → (Code.block id c).wp P Q a w := by
      intro K' h hk
      refine wp_block (ih id hT hd hR h ?_)
      intro e st' a' w' ρ' h1 h2 h3 h4 h5
      cases e with
      | normal => exact hk .normal st' a' w' ρ' h1 h2 h3 h4 h5
      | ret => exact hk .ret st' a' w' ρ' h1 h2 h3 h4 h5
      | exit i =>
        simp only [blockX] at h5
        show (if i = id then Q .normal a' w' else Q (.exit i) a' w')
        by_cases hid : i = id
        · subst hid
          simp only [Nat.beq_refl, cond_true] at h5
          rw [if_pos rfl]
          exact hk .normal st' a' w' ρ' h1 h2 h3 h4 h5
        · have : Nat.beq i id = false := by
            cases e : Nat.beq i id with
            | false => rfl
            | true => exact absurd (Nat.eq_of_beq_eq_true e) hid
          simp only [this, cond_false] at h5
          rw [if_neg hid]
          exact hk (.exit i) st' a' w' ρ' h1 h2 h3 h4 h5
    split at h
    · rename_i j _
      obtain ⟨hj, hc⟩ := h
      have hj := fun s q => bif_iff.1 (hj s q)
      refine main hc ?_
      intro e st' a' w' ρ' h1 h2 h3 h4 h5
      cases e with
      | normal =>
        obtain ⟨s, q1, q2⟩ := h5
        obtain ⟨ρ2, e1, e2, e3⟩ := stLeR_rel (hp0 := st.hp) (fun k q => hR.dom k (List.getElem?_eq_none q)) h1 h2 h4 q1 (hj s q2).1
        exact hk .normal _ a' w' ρ2 e1 e2 h3 e3 (hj s q2).2
      | exit i => exact hk (.exit i) st' a' w' ρ' h1 h2 h3 h4 h5
      | ret => exact hk .ret st' a' w' ρ' h1 h2 h3 h4 h5
    · exact main h hk
  | loop c ih =>
    intro cur st K a w ρ Q hT hd hR h hk
    simp only [codeX] at h
    cases ha : loopOf A cur with
    | none => simp [ha] at h
    | some nn =>
     cases nn with
     | annJ => simp [ha] at h
     | timesJ => simp [ha] at h
     | join => simp [ha] at h
     | afterJ => simp [ha] at h
     | times n =>
      simp only [ha] at h
      refine wp_loop' (fun m a' w' => ∃ st' ρ', Ext ρ ρ' ∧ RT ρ' st'.tm a'.tmps ∧ a'.defers = ds ∧ Rel B w0 ρ' (hpF st'.hp) w' ∧ unroll (fun st K => codeX P Γ inl A cur c st K) K m st') (fun m a' w' hM => ?_) (n := n) ⟨st, ρ, Ext.refl ρ, hT, hd, hR, h⟩
      obtain ⟨st', ρ', p1, p3, p4, p5, p6⟩ := hM
      cases m with
      | zero => exact p6.elim
      | succ m =>
        simp only [unroll] at p6
        refine ih cur p3 p4 p5 p6 ?_
        intro e st2 a2 w2 ρ2 h1 h2 h3 h4 h5
        cases e with
        | normal => exact ⟨m, by omega, st2, ρ2, p1.trans h1, h2, h3, h4, h5⟩
        | exit id => exact hk (.exit id) st2 a2 w2 ρ2 (p1.trans h1) h2 h3 h4 h5
        | ret => exact hk .ret st2 a2 w2 ρ2 (p1.trans h1) h2 h3 h4 h5
     | ann n =>
      simp only [ha] at h
      obtain ⟨s, hle, hinv, hround⟩ := h
      have hround := fun s q => bif_iff.1 (hround s q)
      have hb0 := hround s hinv
      let M : Nat → Act → World → Prop := fun m a' w' => ∃ s' ρ', Ext ρ ρ' ∧ n.inv st s' ∧ RT ρ' (n.st st s').tm a'.tmps ∧ a'.defers = ds ∧ Rel B w0 ρ' (hpF (n.st st s').hp) w' ∧ n.μ st s' = m
      have start : ∀ {s2 : n.σ} {st2 : AS} {a2 : Act} {w2 : World} {ρ2 : Nat → Option Nat}, Ext ρ ρ2 → RT ρ2 st2.tm a2.tmps → a2.defers = ds → Rel B w0 ρ2 (hpF st2.hp) w2 → stLeR st.hp.length st2 (n.st st s2) → n.inv st s2 → M (n.μ st s2) a2 w2 := by
        intro s2 st2 a2 w2 ρ2 e3 h2 h3 h4 q1 q2
        obtain ⟨l1, l2, l3⟩ := stLeN_of q1
        simp only [Bool.and_eq_true] at l3
        have hlen : (renOf st.hp.length st2 (n.st st s2)).length = (n.st st s2).hp.length := renL_length _ _ _ _ _
        refine ⟨s2, ren (renOf st.hp.length st2 (n.st st s2)) ρ2, fun k b e => ?_, q2, h2.lessR l1 l3.2, h3, h4.lessR l2 hlen l3.1, rfl⟩
        have e1 := Nat.le_of_ble_eq_true (hround s2 q2).1
        rcases Nat.lt_or_ge k st.hp.length with q | q
        · refine ren_get (by omega) ?_
          unfold renOf
          rw [renL_get _ _ _ _ _ _ (by omega) (by omega), Nat.zero_add]
          exact e3 k b e
        · have := hR.dom k (List.getElem?_eq_none q)
          rw [this] at e; cases e
      refine wp_loop' M (fun m a' w' hM => ?_) (start (Ext.refl ρ) hT hd hR hle hinv)
      obtain ⟨s', ρ', p1, p2, p3, p4, p5, p6⟩ := hM
      refine ih cur p3 p4 p5 (hround s' p2).2 ?_
      intro e st2 a2 w2 ρ2 h1 h2 h3 h4 h5
      cases e with
      | normal =>
        obtain ⟨s2, q1, q2, q3⟩ := h5
        exact ⟨n.μ st s2, by omega, start (p1.trans h1) h2 h3 h4 q1 q2⟩
      | exit id => exact hk (.exit id) st2 a2 w2 ρ2 (p1.trans h1) h2 h3 h4 h5
      | ret => exact hk .ret st2 a2 w2 ρ2 (p1.trans h1) h2 h3 h4 h5
     | after m0 n =>
      simp only [ha] at h
      let R : AS → Prop := fun st => ∀ s, n.inv st s → (bif Nat.ble st.hp.length (n.st st s).hp.length then
        codeX P Γ inl A cur c (n.st st s) (thenX K fun st' => ∃ s', stLeR st.hp.length st' (n.st st s') ∧ n.inv st s' ∧ n.μ st s' < n.μ st s) else False)
      let fin : AS → Prop := fun st => ∃ s, stLeR st.hp.length st (n.st st s) ∧ n.inv st s ∧ R st
      have h : unrollA (fun st K => codeX P Γ inl A cur c st K) K fin m0 st := h
      have enter : ∀ {st1 st2 : AS} {s2 : n.σ} {a2 : Act} {w2 : World} {ρ1 ρ2 : Nat → Option Nat}, (∀ k, st1.hp.length ≤ k → ρ1 k = none) → R st1 → Ext ρ1 ρ2 → RT ρ2 st2.tm a2.tmps → Rel B w0 ρ2 (hpF st2.hp) w2 → stLeR st1.hp.length st2 (n.st st1 s2) → n.inv st1 s2 →
          ∃ ρ', Ext ρ1 ρ' ∧ RT ρ' (n.st st1 s2).tm a2.tmps ∧ Rel B w0 ρ' (hpF (n.st st1 s2).hp) w2 := by
        intro st1 st2 s2 a2 w2 ρ1 ρ2 hdom hr e3 h2 h4 q1 q2
        exact stLeR_rel (hp0 := st1.hp) hdom e3 h2 h4 q1 (bif_iff.1 (hr s2 q2)).1
      let M : Nat → Nat → Act → World → Prop := fun k m a' w' =>
        (∃ j st' ρ', k = j + 2 ∧ Ext ρ ρ' ∧ RT ρ' st'.tm a'.tmps ∧ a'.defers = ds ∧ Rel B w0 ρ' (hpF st'.hp) w' ∧ unrollA (fun st K => codeX P Γ inl A cur c st K) K fin (j + 1) st') ∨
        (k = 1 ∧ ∃ st1 ρ1 s' ρ', (∀ k, st1.hp.length ≤ k → ρ1 k = none) ∧ R st1 ∧ Ext ρ ρ1 ∧ Ext ρ1 ρ' ∧ n.inv st1 s' ∧ RT ρ' (n.st st1 s').tm a'.tmps ∧ a'.defers = ds ∧ Rel B w0 ρ' (hpF (n.st st1 s').hp) w' ∧ n.μ st1 s' = m)
      have start : ∀ {st2 : AS} {a2 : Act} {w2 : World} {ρ2 : Nat → Option Nat}, Ext ρ ρ2 → RT ρ2 st2.tm a2.tmps → a2.defers = ds → Rel B w0 ρ2 (hpF st2.hp) w2 → fin st2 → ∃ m, M 1 m a2 w2 := by
        intro st2 a2 w2 ρ2 e3 h2 h3 h4 hf
        obtain ⟨s, q1, q2, q3⟩ := hf
        have hdom : ∀ k, st2.hp.length ≤ k → ρ2 k = none := fun k q => h4.dom k (List.getElem?_eq_none q)
        obtain ⟨ρ', k1, k2, k3⟩ := enter hdom q3 (Ext.refl ρ2) h2 h4 q1 q2
        exact ⟨_, .inr ⟨rfl, st2, ρ2, s, ρ', hdom, q3, e3, k1, q2, k2, h3, k3, rfl⟩⟩
      have main : ∀ {k m : Nat} {a2 : Act} {w2 : World}, M k m a2 w2 → (Code.loop c).wp P Q a2 w2 := by
        intro k m a2 w2 hM
        refine wp_loopL M (fun k m a' w' hM => ?_) hM
        rcases hM with ⟨j, st', ρ', rfl, p1, p3, p4, p5, p6⟩ | ⟨rfl, st1, ρ1, s', ρ', d1, d2, d3, p1, p2, p3, p4, p5, p6⟩
        · simp only [unrollA] at p6
          refine ih cur p3 p4 p5 p6 ?_
          intro e st2 a2 w2 ρ2 h1 h2 h3 h4 h5
          cases e with
          | normal =>
            cases j with
            | zero =>
              obtain ⟨m', hm'⟩ := start (p1.trans h1) h2 h3 h4 h5
              exact ⟨1, m', .inl (by omega), hm'⟩
            | succ j => exact ⟨j + 2, 0, .inl (by omega), .inl ⟨j, st2, ρ2, rfl, p1.trans h1, h2, h3, h4, h5⟩⟩
          | exit id => exact hk (.exit id) st2 a2 w2 ρ2 (p1.trans h1) h2 h3 h4 h5
          | ret => exact hk .ret st2 a2 w2 ρ2 (p1.trans h1) h2 h3 h4 h5
        · refine ih cur p3 p4 p5 (bif_iff.1 (d2 s' p2)).2 ?_
          intro e st2 a2 w2 ρ2 h1 h2 h3 h4 h5
          cases e with
          | normal =>
            obtain ⟨s2, q1, q2, q3⟩ := h5
            obtain ⟨ρ3, k1, k2, k3⟩ := enter d1 d2 (p1.trans h1) h2 h4 q1 q2
            exact ⟨1, n.μ st1 s2, .inr ⟨rfl, by omega⟩, .inr ⟨rfl, st1, ρ1, s2, ρ3, d1, d2, d3, k1, q2, k2, h3, k3, rfl⟩⟩
          | exit id => exact hk (.exit id) st2 a2 w2 ρ2 ((d3.trans p1).trans h1) h2 h3 h4 h5
          | ret => exact hk .ret st2 a2 w2 ρ2 ((d3.trans p1).trans h1) h2 h3 h4 h5
      cases m0 with
      | zero =>
        obtain ⟨m, hm⟩ := start (Ext.refl ρ) hT hd hR h
        exact main hm
      | succ j => exact main (k := j + 2) (m := 0) (.inl ⟨j, st, ρ, rfl, Ext.refl ρ, hT, hd, hR, h⟩)
  | _ => intro cur st K a w ρ Q hT hd hR h hk; simp only [codeX] at h
end
section
variable {P : Program} {B : Nat} {w0 w : World} {ρ : Nat → Option Nat} {hp : List Blk}
def resX (P : Program) (st : AS) : List ResultVar → Option (List AV)
  | [] => some []
  | .tmp t :: l => match resX P st l with | some r => some (lget st.tm t :: r) | none => none
  | .cell c t :: l =>
    match lget st.tm c with
    | .p k o => match loadX P st.hp t k o, resX P st l with | some a, some r => some (a :: r) | _, _ => none
    | _ => none
def noTu : AV → Bool
  | .tu _ => false
  | _ => true
theorem noTus {ρ : Nat → Option Nat} : ∀ {l : List AV} {vs : List Value}, l.all noTu = true → RL ρ l vs → RL1 ρ l vs
  | [], [], _, _ => trivial
  | a :: l, v :: vs, h, hr => by
    simp only [List.all_cons, Bool.and_eq_true] at h
    refine ⟨?_, noTus h.2 hr.2⟩
    have := hr.1
    cases a with
    | tu q => simp [noTu] at h
    | _ => exact this
  | [], _ :: _, _, hr => hr.elim
  | _ :: _, [], _, hr => hr.elim
def oneX : List AV → Option AV
  | [a] => some a
  | l => match vals l with | some r => some (.v (.tuple r.toArray)) | none => bif l.all noTu then some (.tu l) else none
def repl : Nat → List AV
  | 0 => []
  | n + 1 => .v undef :: repl n
def runX (P : Program) (Γ : List (FuncId × CSpec)) (A : FuncId → List (Nat × LoopBy)) : Nat → Inl
  | 0, _, _, _, _ => False
  | n + 1, g, args, hp, K =>
    match P.funcs[g]? with
    | some fn =>
      match fn.body with
      | some c =>
        bif fn.name == "runtime.NumGoroutine" then False else
        codeX P Γ (runX P Γ A n) (A g) 0 c ⟨args ++ repl (fn.ntmps - args.length), hp⟩ (fun e st =>
          match e with
          | .exit _ => False
          | _ => match resX P st fn.results.toList with
            | some l => match oneX l with | some a => K a st.hp | none => False
            | none => False)
      | none => False
    | none => False
theorem resX_run (h : Rel B w0 ρ (hpF hp) w) {st : AS} {a : Act} (e : st.hp = hp) (hT : RT ρ st.tm a.tmps) (f : ResultVar → Sem Value)
    (hf : ∀ x, f x = match x with | .tmp t => pure (a.tmps.getD t undef) | .cell c t => do loadVar t (← asAddr (a.tmps.getD c undef))) :
    ∀ {l : List ResultVar} {r : List AV}, resX P st l = some r → ∃ vs, (l.mapM f).run P w = .ok vs w ∧ RL ρ r vs
  | [], r, hr => by
    simp [resX] at hr; subst hr
    exact ⟨[], by rw [List.mapM_nil]; rfl, trivial⟩
  | .tmp t :: l, r, hr => by
    simp only [resX] at hr
    cases e1 : resX P st l with
    | none => simp [e1] at hr
    | some r' =>
      simp [e1] at hr
      subst hr
      obtain ⟨vs, h1, h2⟩ := resX_run h e hT f hf e1
      refine ⟨a.tmps.getD t undef :: vs, ?_, hT.2 t, h2⟩
      rw [List.mapM_cons, hf]
      show Sem.run P (Sem.bind (Sem.pure _) _) w = _
      show Sem.run P (Sem.bind (l.mapM f) _) w = _
      rw [Sem.run_bind', h1]
      rfl
  | .cell c t :: l, r, hr => by
    simp only [resX] at hr
    have hx := hT.2 c
    split at hr
    · rename_i k o hc
      rw [hc] at hx
      obtain ⟨n, hn, hx⟩ := hx
      cases e0 : loadX P st.hp t k o with
      | none => simp [e0] at hr
      | some av =>
        cases e1 : resX P st l with
        | none => simp [e0, e1] at hr
        | some r' =>
          simp [e0, e1] at hr
          subst hr
          obtain ⟨vs, h1, h2⟩ := resX_run h e hT f hf e1
          rw [e] at e0
          obtain ⟨v, hv, hr⟩ := loadX_run h hn e0
          refine ⟨v :: vs, ?_, hr, h2⟩
          rw [List.mapM_cons, hf]
          simp only [hx]
          show Sem.run P (Sem.bind (loadVar t ⟨n, o, none⟩) _) w = _
          rw [Sem.run_bind', hv]
          show Sem.run P (Sem.bind (l.mapM f) _) w = _
          rw [Sem.run_bind', h1]
          rfl
    · cases hr
theorem oneX_R {l : List AV} {a : AV} {vs : List Value} (h : oneX l = some a) (hr : RL ρ l vs) : a.R ρ (if h : vs.toArray.size = 1 then vs.toArray[0] else .tuple vs.toArray) := by
  unfold oneX at h
  split at h
  · rename_i b
    cases h
    match vs, hr with
    | [v], hr => exact hr.1
    | _ :: _ :: _, hr => exact hr.2.elim
  · rename_i hne
    have hlen : ¬ vs.toArray.size = 1 := by
      intro e
      have e' : vs.length = 1 := by simpa using e
      have := RL.length hr
      match l, this with
      | [b], _ => exact hne b rfl
      | [], q => simp at q; omega
      | _ :: _ :: _, q => simp at q; omega
    rw [dif_neg hlen]
    split at h
    · rename_i r hv
      cases h
      have := vals_R hv hr
      subst this
      rfl
    · cases hn : l.all noTu with
      | false => simp [hn] at h
      | true =>
        simp only [hn, cond_true, Option.some.injEq] at h
        subst h
        exact ⟨vs, rfl, noTus hn hr⟩
theorem results_run (h : Rel B w0 ρ (hpF hp) w) {st : AS} {a : Act} (e : st.hp = hp) (hT : RT ρ st.tm a.tmps) {fn : Func} {l : List AV} {av : AV}
    (hr : resX P st fn.results.toList = some l) (ho : oneX l = some av) : ∃ v, (results fn a.tmps).run P w = .ok v w ∧ av.R ρ v := by
  unfold results
  obtain ⟨vs, h1, h2⟩ := resX_run h e hT (fun x => match x with | .tmp t => pure (a.tmps.getD t undef) | .cell c t => do loadVar t (← asAddr (a.tmps.getD c undef))) (fun _ => rfl) hr
  refine ⟨_, ?_, oneX_R ho h2⟩
  rw [Array.mapM_eq_mapM_toList]
  rw [Sem.run_bind, Sem.run_map]
  erw [h1]
  rfl
theorem repl_length (n : Nat) : (repl n).length = n := by induction n <;> simp_all [repl]
theorem lget_repl (n i : Nat) : lget (repl n) i = .v undef := by
  induction n generalizing i with
  | zero => rfl
  | succ n ih => cases i <;> simp [repl, lget, ih]
theorem lget_append : ∀ (l m : List AV) (i : Nat), lget (l ++ m) i = if i < l.length then lget l i else lget m (i - l.length)
  | [], m, i => by simp
  | x :: l, m, 0 => by simp [lget]
  | x :: l, m, i + 1 => by simp [lget, lget_append l m i]
theorem RT.enter {args : List AV} {vs : List Value} (h : RL ρ args vs) (n : Nat) :
    RT ρ (args ++ repl (n - args.length)) (vs.toArray ++ Array.replicate (n - vs.toArray.size) undef) := by
  have hl := RL.length h
  refine ⟨by simp [repl_length, hl], fun i => ?_⟩
  rw [lget_append]
  by_cases hi : i < args.length
  · rw [if_pos hi]
    have := RL.get h i
    have e : (vs.toArray ++ Array.replicate (n - vs.toArray.size) undef).getD i undef = vs.getD i undef := by
      simp only [Array.getD_eq_getD_getElem?]
      rw [Array.getElem?_append_left (by simp; omega)]
      simp [List.getD]
    rw [e]
    exact this
  · rw [if_neg hi, lget_repl]
    show _ = _
    simp only [Array.getD_eq_getD_getElem?]
    rw [Array.getElem?_append_right (by simp; omega)]
    simp [Array.getElem?_replicate]
    split <;> rfl
theorem runX_sound {Φ : World → Prop} {Γ : List (FuncId × CSpec)} (hΓ : Sound P Φ Γ) (hΦ : ∀ w, Below B w0 w → B ≤ w.heap.size → Φ w) {A : FuncId → List (Nat × LoopBy)} :
    ∀ n, InlSound P B w0 (runX P Γ A n)
  | 0 => fun g args hp K w ρ vs h => h.elim
  | n + 1 => by
    intro g args hp K w ρ vs h hR ha
    simp only [runX] at h
    cases hf : P.funcs[g]? with
    | none => simp [hf] at h
    | some fn =>
      cases hb : fn.body with
      | none => simp [hf, hb] at h
      | some c =>
        simp only [hf, hb] at h
        cases hn : (fn.name == "runtime.NumGoroutine") with
        | true => simp [hn] at h
        | false =>
          simp only [hn, cond_false] at h
          refine ⟨⟨fn, hf, hn, by rw [hb]; rfl⟩, ?_⟩
          refine calls_of_wp hf hb (codeX_sound hΓ hΦ (runX_sound hΓ hΦ n) c 0 (ρ := ρ) (RT.enter ha fn.ntmps) rfl hR h ?_)
          intro e st' a' w' ρ' h1 h2 h3 h4 h5
          have fin : (match resX P st' fn.results.toList with
            | some l => match oneX l with | some a => K a st'.hp | none => False
            | none => False) → a'.defers = [] ∧ ∃ v, (results fn a'.tmps).run P w' = .ok v w' ∧ (∃ ρ' hp' av u, Ending.returned v = .returned u ∧ Ext ρ ρ' ∧ Rel B w0 ρ' (hpF hp') w' ∧ AV.R ρ' av u ∧ K av hp') := by
            intro h5
            cases hr : resX P st' fn.results.toList with
            | none => simp [hr] at h5
            | some l =>
              cases ho : oneX l with
              | none => simp [hr, ho] at h5
              | some av =>
                simp only [hr, ho] at h5
                obtain ⟨v, hv, hvr⟩ := results_run h4 rfl h2 hr ho
                exact ⟨h3, v, hv, ρ', st'.hp, av, v, rfl, h1, h4, hvr, h5⟩
          cases e with
          | normal => exact fin h5
          | ret => exact fin h5
          | exit id => exact h5.elim
theorem fn_of_run {Φ : World → Prop} (hst : ∀ w w', Φ w → Below w.heap.size w w' → Φ w') {Γ : List (FuncId × CSpec)} (hΓ : Sound P Φ Γ) (A : FuncId → List (Nat × LoopBy)) (n : Nat) {f : FuncId} {args : List Value} {R : Value → Prop}
    (h : runX P Γ A n f (args.map .v) [] (fun a _ => match a with | .v v => R v | _ => False)) {w : World} (hw : Φ w) :
    Calls P f args.toArray w fun e w' => ∃ v, e = .returned v ∧ R v ∧ Below w.heap.size w w' := by
  have hR : Rel w.heap.size w (fun _ => none) (hpF []) w := ⟨Below.refl _ _, Nat.le_refl _, fun _ _ => rfl, fun i j b x y h => by simp at h, fun k b h hk => by simp at hk, fun k h hk => by simp [hpF] at hk, KeepsOthers.refl _⟩
  refine (runX_sound (B := w.heap.size) (w0 := w) hΓ (fun w' h1 _ => hst w w' hw h1) n f (args.map .v) [] _ w (fun _ => none) args h hR (RL.vals args)).2.mono ?_
  rintro e w' ⟨ρ', hp', av, v, rfl, h1, h2, h3, h4⟩
  cases av with
  | v x => have h3 : v = x := h3; subst h3; exact ⟨v, rfl, h4, h2.below⟩
  | _ => exact h4.elim
theorem fn_eq {Φ : World → Prop} (hst : ∀ w w', Φ w → Below w.heap.size w w' → Φ w') {Γ : List (FuncId × CSpec)} (hΓ : Sound P Φ Γ) (A : FuncId → List (Nat × LoopBy)) (n : Nat) {f : FuncId} {args : List Value} {u : Value}
    (h : runX P Γ A n f (args.map .v) [] (fun a _ => match a with | .v v => v = u | _ => False)) : Ans P Φ f args u := by
  intro w hw
  refine (fn_of_run hst hΓ A n h hw).mono ?_
  rintro e w' ⟨v, rfl, rfl, hb⟩
  exact ⟨rfl, hb⟩
def ansX (K : Value → Prop) : AV → List Blk → Prop := fun a _ => match a with | .v v => K v | _ => False
def callsX (P : Program) (Γ : List (FuncId × CSpec)) (A : FuncId → List (Nat × LoopBy)) (f : FuncId) (args : List Value) (K : Value → Prop) : Prop := runX P Γ A 12 f (args.map .v) [] (ansX K)
def noAnn : FuncId → List (Nat × LoopBy) := fun _ => []
theorem fn_vc {Φ : World → Prop} (hst : ∀ w w', Φ w → Below w.heap.size w w' → Φ w') {Γ : List (FuncId × CSpec)} (hΓ : Sound P Φ Γ) {A : FuncId → List (Nat × LoopBy)} {f : FuncId} {args : List Value} {u : Value}
    (h : callsX P Γ A f args (fun v => v = u)) : Ans P Φ f args u := fn_eq hst hΓ A 12 h
theorem fn_by {Φ : World → Prop} (hst : ∀ w w', Φ w → Below w.heap.size w w' → Φ w') {Γ : List (FuncId × CSpec)} (hΓ : Sound P Φ Γ) {A : FuncId → List (Nat × LoopBy)} {f : FuncId} {args : List Value} {u : Value} {V : Prop}
    (hv : callsX P Γ A f args (fun v => v = u) = V) (h : V) : Ans P Φ f args u := fn_vc hst hΓ (A := A) (by rw [hv]; exact h)
theorem pans_of {Φ : World → Prop} {f : FuncId} {args cell : List Value} {v : Value} (h : ∀ b T, Ans P (fun w => Φ w ∧ w.heap[b]? = some (.cells cell.toArray T (0, 0))) f (Value.pointer (some ⟨b, 0, none⟩) :: args) v) : PAns P Φ f args cell v :=
  fun w b T hw hb => h b T w ⟨hw, hb⟩
def callsN (n : Nat) (P : Program) (Γ : List (FuncId × CSpec)) (A : FuncId → List (Nat × LoopBy)) (f : FuncId) (args : List Value) (K : Value → Prop) : Prop := runX P Γ A n f (args.map .v) [] (ansX K)
theorem fn_vcN {n : Nat} {Φ : World → Prop} (hst : ∀ w w', Φ w → Below w.heap.size w w' → Φ w') {Γ : List (FuncId × CSpec)} (hΓ : Sound P Φ Γ) {A : FuncId → List (Nat × LoopBy)} {f : FuncId} {args : List Value} {u : Value}
    (h : callsN n P Γ A f args (fun v => v = u)) : Ans P Φ f args u := fn_eq hst hΓ A n h
theorem fn_byN {n : Nat} {Φ : World → Prop} (hst : ∀ w w', Φ w → Below w.heap.size w w' → Φ w') {Γ : List (FuncId × CSpec)} (hΓ : Sound P Φ Γ) {A : FuncId → List (Nat × LoopBy)} {f : FuncId} {args : List Value} {u : Value} {V : Prop}
    (hv : callsN n P Γ A f args (fun v => v = u) = V) (h : V) : Ans P Φ f args u := fn_vcN hst hΓ (n := n) (A := A) (by rw [hv]; exact h)
theorem Sound.nil {Φ : World → Prop} : Sound P Φ [] := fun f s h => by cases h
theorem Sound.cons {Φ : World → Prop} {Γ : List (FuncId × CSpec)} {g : FuncId} {s : FSpec} (hc : (match P.funcs[g]? with | some fn => !(fn.name == "runtime.NumGoroutine") && fn.body.isSome | none => false) = true)
    (hs : ∀ args p v, s args = some (p, v) → p → Ans P Φ g args v) (h : Sound P Φ Γ) : Sound P Φ ((g, CSpec.v s) :: Γ) := by
  intro f t hf
  simp only [spec] at hf
  cases e : Nat.beq g f with
  | false => rw [e] at hf; exact h f t hf
  | true =>
    rw [e] at hf
    cases hf
    have := Nat.eq_of_beq_eq_true e
    subst this
    refine ⟨?_, hs⟩
    show ∃ fn, P.funcs[g]? = some fn ∧ (fn.name == "runtime.NumGoroutine") = false ∧ fn.body.isSome = true
    cases hg : P.funcs[g]? with
    | none => simp [hg] at hc
    | some fn =>
      simp only [hg, Bool.and_eq_true, Bool.not_eq_true'] at hc
      exact ⟨fn, rfl, hc.1, hc.2⟩
theorem Sound.rcons {Φ : World → Prop} {Γ : List (FuncId × CSpec)} {g : FuncId} {s : RSpec} (hc : (match P.funcs[g]? with | some fn => !(fn.name == "runtime.NumGoroutine") && fn.body.isSome | none => false) = true)
    (hs : ∀ ads p rds, s ads = some (p, rds) → p → RAns P Φ g ads rds) (h : Sound P Φ Γ) : Sound P Φ ((g, CSpec.r s) :: Γ) := by
  intro f t hf
  simp only [spec] at hf
  cases e : Nat.beq g f with
  | false => rw [e] at hf; exact h f t hf
  | true =>
    rw [e] at hf
    cases hf
    have := Nat.eq_of_beq_eq_true e
    subst this
    refine ⟨?_, hs⟩
    show ∃ fn, P.funcs[g]? = some fn ∧ (fn.name == "runtime.NumGoroutine") = false ∧ fn.body.isSome = true
    cases hg : P.funcs[g]? with
    | none => simp [hg] at hc
    | some fn =>
      simp only [hg, Bool.and_eq_true, Bool.not_eq_true'] at hc
      exact ⟨fn, rfl, hc.1, hc.2⟩
theorem Sound.pcons {Φ : World → Prop} {Γ : List (FuncId × CSpec)} {g : FuncId} {s : PSpec} (hc : (match P.funcs[g]? with | some fn => !(fn.name == "runtime.NumGoroutine") && fn.body.isSome | none => false) = true)
    (hs : ∀ args cell p v, s args cell = some (p, v) → p → PAns P Φ g args cell v) (h : Sound P Φ Γ) : Sound P Φ ((g, CSpec.p s) :: Γ) := by
  intro f t hf
  simp only [spec] at hf
  cases e : Nat.beq g f with
  | false => rw [e] at hf; exact h f t hf
  | true =>
    rw [e] at hf
    cases hf
    have := Nat.eq_of_beq_eq_true e
    subst this
    refine ⟨?_, hs⟩
    show ∃ fn, P.funcs[g]? = some fn ∧ (fn.name == "runtime.NumGoroutine") = false ∧ fn.body.isSome = true
    cases hg : P.funcs[g]? with
    | none => simp [hg] at hc
    | some fn =>
      simp only [hg, Bool.and_eq_true, Bool.not_eq_true'] at hc
      exact ⟨fn, rfl, hc.1, hc.2⟩
theorem Sound.qcons {Φ : World → Prop} {Γ : List (FuncId × CSpec)} {g : FuncId} {s : QSpec} (hc : (match P.funcs[g]? with | some fn => !(fn.name == "runtime.NumGoroutine") && fn.body.isSome | none => false) = true)
    (hs : ∀ args p Q, s args = some (p, Q) → p → ∀ K, Q K → ∃ v, Ans P Φ g args v ∧ K v) (h : Sound P Φ Γ) : Sound P Φ ((g, CSpec.q s) :: Γ) := by
  intro f t hf
  simp only [spec] at hf
  cases e : Nat.beq g f with
  | false => rw [e] at hf; exact h f t hf
  | true =>
    rw [e] at hf
    cases hf
    have := Nat.eq_of_beq_eq_true e
    subst this
    refine ⟨?_, hs⟩
    show ∃ fn, P.funcs[g]? = some fn ∧ (fn.name == "runtime.NumGoroutine") = false ∧ fn.body.isSome = true
    cases hg : P.funcs[g]? with
    | none => simp [hg] at hc
    | some fn =>
      simp only [hg, Bool.and_eq_true, Bool.not_eq_true'] at hc
      exact ⟨fn, rfl, hc.1, hc.2⟩
theorem Sound.econs {Φ : World → Prop} {Γ : List (FuncId × CSpec)} {g : FuncId} {s : QSpec}
    (hs : ∀ args p Q, s args = some (p, Q) → p → ∀ K, Q K → ∃ v, K v ∧ ∀ w, (callFunc g args.toArray).run P w = .ok (.value v) w) (h : Sound P Φ Γ) : Sound P Φ ((g, CSpec.e s) :: Γ) := by
  intro f t hf
  simp only [spec] at hf
  cases e : Nat.beq g f with
  | false => rw [e] at hf; exact h f t hf
  | true =>
    rw [e] at hf
    cases hf
    have := Nat.eq_of_beq_eq_true e
    subst this
    exact ⟨trivial, hs⟩
theorem wrap_in {n : Int} (h : -9223372036854775808 ≤ n ∧ n ≤ 9223372036854775807) : IntKind.i64.wrap n = n := IntWalk.i64_in n h
end
section
variable {P : Program}
def rcallsX (P : Program) (Γ : List (FuncId × CSpec)) (A : FuncId → List (Nat × LoopBy)) (f : FuncId) (ads rds : List AD) : Prop :=
  match stCells 0 (flatCD ads) with
  | some (sts, hp) => (match groupAV ads sts with | some args => runX P Γ A 12 f args hp (retK sts rds) | none => False)
  | none => False
theorem rfn_run {Φ : World → Prop} (hst : ∀ w w', Φ w → Below w.heap.size w w' → Φ w') {Γ : List (FuncId × CSpec)} (hΓ : Sound P Φ Γ) {A : FuncId → List (Nat × LoopBy)} {f : FuncId} {ads rds : List AD} (h : rcallsX P Γ A f ads rds) : RAns P Φ f ads rds := by
  intro w vs cells hw h1 h2
  unfold rcallsX at h
  split at h
  · rename_i sts hp hs
    split at h
    · rename_i args hg
      have hR0 : Rel w.heap.size w (fun _ => none) (hpF []) w := by
        refine ⟨Below.refl _ _, Nat.le_refl _, fun _ _ => rfl, fun i j b x y hi => (by cases hi), fun k b x hk => (by cases hk), fun k x hx => (by simp [hpF] at hx), KeepsOthers.refl _⟩
      obtain ⟨ρ0, _, hR, hr⟩ := stCells_run (B := w.heap.size) (w0 := w) rfl (h0 := []) hR0 (fun i x hx => by simp [hpF] at hx) h2 hs
      have hr1 := (groupAV_run hg h1 hr).rl
      obtain ⟨_, hc⟩ := runX_sound hΓ (B := w.heap.size) (w0 := w) (fun w' hb _ => hst w w' hw hb) (A := A) 12 f args _ _ w ρ0 vs h hR hr1
      refine hc.mono fun e w' hq => ?_
      obtain ⟨ρ', hp', av, v, he, q1, q2, q3, q4⟩ := hq
      obtain ⟨rvs, rcells, gs, r1, r2, r3, r4⟩ := retK_run q2 q1 hr q3 q4
      exact ⟨q2.below, rvs, rcells, gs, by rw [he, r1], r2, r3, r4⟩
    · exact h.elim
  · exact h.elim
theorem rfn_by {Φ : World → Prop} (hst : ∀ w w', Φ w → Below w.heap.size w w' → Φ w') {Γ : List (FuncId × CSpec)} (hΓ : Sound P Φ Γ) {A : FuncId → List (Nat × LoopBy)} {f : FuncId} {ads rds : List AD} {V : Prop} (hv : rcallsX P Γ A f ads rds = V) (h : V) : RAns P Φ f ads rds :=
  rfn_run hst hΓ (A := A) (by rw [hv]; exact h)
end
end Go.Abs
