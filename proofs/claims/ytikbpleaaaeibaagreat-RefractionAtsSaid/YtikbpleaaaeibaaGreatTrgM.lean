/- The product of the program's numbers: what it answers. -/
import Derived.Test.YtikbpleaaaeibaaGreatTrgB
namespace Go.Proofs.YtikbpleaaaeibaaGreat
open Go Go.Abs Go.RowKit
set_option linter.unusedVariables false
set_option linter.unusedSimpArgs false
theorem row {x y h l S C s1 d1 s2 d2 : Int} (hm : MulR x y h l) (h1 : AddR S l 0 s1 d1) (h2 : AddR s1 C 0 s2 d2) (hS : U64 S) (hC : U64 C) :
    ∃ c, IntKind.u64.wrap (IntKind.u64.wrap (h + d1) + d2) = c ∧ U64 c ∧ x * y + S + C = c * 18446744073709551616 + s2 := by
  obtain ⟨a1, a2, a3, a4, a5, a6⟩ := hm
  obtain ⟨b1, b2, b3⟩ := h1
  obtain ⟨c1, c2, c3⟩ := h2
  have b2 := bit_lt b2
  have c2 := bit_lt c2
  unfold U64 at *
  generalize x * y = p at *
  have e1 : IntKind.u64.wrap (h + d1) = h + d1 := wrap_u64 (by omega)
  have e2 : IntKind.u64.wrap (h + d1 + d2) = h + d1 + d2 := wrap_u64 (by omega)
  refine ⟨h + d1 + d2, by rw [e1, e2], by omega, by omega⟩
theorem wt3 : wt 3 = 340282366920938463463374607431768211456 := rfl
theorem wt2 : wt (IntKind.i64.wrap (3 - 1)) = 6277101735386680763835789423207666416102355444464034512896 := by kernel_rfl
theorem wt1 : wt (IntKind.i64.wrap (IntKind.i64.wrap (3 - 1) - 1)) = 115792089237316195423570985008687907853269984665640564039457584007913129639936 := by kernel_rfl
theorem wt0 : wt (IntKind.i64.wrap (IntKind.i64.wrap (IntKind.i64.wrap (3 - 1) - 1) - 1)) = 2135987035920910082395021706169552114602704522356652769947041607822219725780640550022962086936576 := by kernel_rfl
theorem u0 : U64 0 := ⟨by decide, by decide⟩
theorem bit0 : Bit 0 := .inl rfl
/-- The sum of the products of the words that count. -/
def mulS (a b c d x y z u : Int) : Int := a * x * 115792089237316195423570985008687907853269984665640564039457584007913129639936 + (a * y + b * x) * 6277101735386680763835789423207666416102355444464034512896 + (a * z + b * y + c * x) * 340282366920938463463374607431768211456 + (a * u + b * z + c * y + d * x) * 18446744073709551616 + (b * u + c * z + d * y)
theorem c_trmul {Φ : World → Prop} (hst : ∀ w w', Φ w → Below w.heap.size w w' → Φ w') {a b c d x y z u : Int} (hA : U4 a b c d) (hB : U4 x y z u) : Ans Tryz.prog Φ 90 [vN a b c d, vN x y z u] (vNat (mulS a b c d x y z u / 340282366920938463463374607431768211456)) := by
  refine fn_by hst (s_Tm hst) (vc_trmul a b c d x y z u _) ?_
  obtain ⟨ua, ub, uc, ud⟩ := hA
  obtain ⟨ux, uy, uz, uu⟩ := hB
  refine ⟨⟨ud, uy⟩, fun h1 l1 m1 => ⟨⟨u0, m1.2.1, bit0⟩, fun s1 e1 f1 => ⟨⟨f1.1, u0, bit0⟩, fun r1 g1 q1 => ?_⟩⟩⟩
  obtain ⟨C1, w1, v1, p1⟩ := row m1 f1 q1 u0 u0
  rw [w1]
  refine ⟨⟨ud, ux⟩, fun h2 l2 m2 => ⟨⟨u0, m2.2.1, bit0⟩, fun s2 e2 f2 => ⟨⟨f2.1, v1, bit0⟩, fun r2 g2 q2 => ?_⟩⟩⟩
  obtain ⟨C2, w2, v2, p2⟩ := row m2 f2 q2 u0 v1
  rw [w2]
  refine ⟨fun S3 T3 => ?_, ?_⟩
  rotate_left
  · clear p1 p2
    refine bcase_iff.mpr ⟨fun qa0 => ⟨⟨u0, v2, bit0⟩, fun sa0 da0 fa0 => ?_⟩, fun qa0 => ?_⟩
    · have ta0 := bit_u fa0.2.1
      refine bcase_iff.mpr ⟨fun qa1 => ⟨⟨u0, ta0, bit0⟩, fun sa1 da1 fa1 => ?_⟩, fun qa1 => ?_⟩
      · have ta1 := bit_u fa1.2.1
        refine bcase_iff.mpr ⟨fun qa2 => ⟨⟨u0, ta1, bit0⟩, fun sa2 da2 fa2 => ?_⟩, fun qa2 => ?_⟩
        · have ta2 := bit_u fa2.2.1
          refine bcase_iff.mpr ⟨fun qa3 => ⟨⟨u0, ta2, bit0⟩, fun sa3 da3 fa3 => ?_⟩, fun qa3 => ?_⟩
          · have ta3 := bit_u fa3.2.1
            refine ⟨⟨sa3, sa2, sa1, sa0, r2, r1, da3⟩, ⟨rfl, rfl, rfl, rfl, rfl, rfl, rfl, rfl, rfl, rfl, rfl, rfl, rfl, rfl, rfl, rfl, rfl, rfl, rfl, rfl, trivial⟩, ⟨fa3.1, fa2.1, fa1.1, fa0.1, q2.1, q1.1, ta3, ⟨da3, ?_, ?_⟩⟩⟩
            · exact ta3.1
            · have z0 := fa0.2.2
              have z1 := fa1.2.2
              have z2 := fa2.2.2
              have z3 := fa3.2.2
              simp only [six, wt3]
              omega
          · have na3 := of_decide_eq_false qa3
            refine ⟨⟨0, sa2, sa1, sa0, r2, r1, da2⟩, ⟨rfl, rfl, rfl, rfl, rfl, rfl, rfl, rfl, rfl, rfl, rfl, rfl, rfl, rfl, rfl, rfl, rfl, rfl, rfl, rfl, trivial⟩, ⟨u0, fa2.1, fa1.1, fa0.1, q2.1, q1.1, ta2, ⟨0, ?_, ?_⟩⟩⟩
            · exact Int.le_refl _
            · have z0 := fa0.2.2
              have z1 := fa1.2.2
              have z2 := fa2.2.2
              have y3 := ta2.1
              simp only [six, wt3]
              omega
        · have na2 := of_decide_eq_false qa2
          refine ⟨⟨0, 0, sa1, sa0, r2, r1, da1⟩, ⟨rfl, rfl, rfl, rfl, rfl, rfl, rfl, rfl, rfl, rfl, rfl, rfl, rfl, rfl, rfl, rfl, rfl, rfl, rfl, rfl, trivial⟩, ⟨u0, u0, fa1.1, fa0.1, q2.1, q1.1, ta1, ⟨0, ?_, ?_⟩⟩⟩
          · exact Int.le_refl _
          · have z0 := fa0.2.2
            have z1 := fa1.2.2
            have y2 := ta1.1
            simp only [six, wt3]
            omega
      · have na1 := of_decide_eq_false qa1
        refine ⟨⟨0, 0, 0, sa0, r2, r1, da0⟩, ⟨rfl, rfl, rfl, rfl, rfl, rfl, rfl, rfl, rfl, rfl, rfl, rfl, rfl, rfl, rfl, rfl, rfl, rfl, rfl, rfl, trivial⟩, ⟨u0, u0, u0, fa0.1, q2.1, q1.1, ta0, ⟨0, ?_, ?_⟩⟩⟩
        · exact Int.le_refl _
        · have z0 := fa0.2.2
          have y1 := ta0.1
          simp only [six, wt3]
          omega
    · have na0 := of_decide_eq_false qa0
      refine ⟨⟨0, 0, 0, 0, r2, r1, C2⟩, ⟨rfl, rfl, rfl, rfl, rfl, rfl, rfl, rfl, rfl, rfl, rfl, rfl, rfl, rfl, rfl, rfl, rfl, rfl, rfl, rfl, trivial⟩, ⟨u0, u0, u0, u0, q2.1, q1.1, v2, ⟨0, ?_, ?_⟩⟩⟩
      · exact Int.le_refl _
      · have y0 := v2.1
        simp only [six, wt3]
        omega
  obtain ⟨ua3, ub3, uc3, ud3, ue3, uf3, ug3, k3, kk3, t3⟩ := T3
  simp only [six, wt3] at t3
  refine ⟨⟨uc, uz⟩, fun h3 l3 m3 => ⟨⟨uf3, m3.2.1, bit0⟩, fun s3 e3 f3 => ⟨⟨f3.1, u0, bit0⟩, fun r3 g3 q3 => ?_⟩⟩⟩
  obtain ⟨C3, w3, v3, p3⟩ := row m3 f3 q3 uf3 u0
  rw [w3]
  refine ⟨⟨uc, uy⟩, fun h4 l4 m4 => ⟨⟨ue3, m4.2.1, bit0⟩, fun s4 e4 f4 => ⟨⟨f4.1, v3, bit0⟩, fun r4 g4 q4 => ?_⟩⟩⟩
  obtain ⟨C4, w4, v4, p4⟩ := row m4 f4 q4 ue3 v3
  rw [w4]
  refine ⟨⟨uc, ux⟩, fun h5 l5 m5 => ⟨⟨ud3, m5.2.1, bit0⟩, fun s5 e5 f5 => ⟨⟨f5.1, v4, bit0⟩, fun r5 g5 q5 => ?_⟩⟩⟩
  obtain ⟨C5, w5, v5, p5⟩ := row m5 f5 q5 ud3 v4
  rw [w5]
  refine ⟨fun S2 T2 => ?_, ?_⟩
  rotate_left
  · clear p3 p4 p5
    refine bcase_iff.mpr ⟨fun qa0 => ⟨⟨uc3, v5, bit0⟩, fun sa0 da0 fa0 => ?_⟩, fun qa0 => ?_⟩
    · have ta0 := bit_u fa0.2.1
      refine bcase_iff.mpr ⟨fun qa1 => ⟨⟨ub3, ta0, bit0⟩, fun sa1 da1 fa1 => ?_⟩, fun qa1 => ?_⟩
      · have ta1 := bit_u fa1.2.1
        refine bcase_iff.mpr ⟨fun qa2 => ⟨⟨ua3, ta1, bit0⟩, fun sa2 da2 fa2 => ?_⟩, fun qa2 => ?_⟩
        · have ta2 := bit_u fa2.2.1
          refine ⟨⟨sa2, sa1, sa0, r5, r4, r3, da2⟩, ⟨rfl, rfl, rfl, rfl, rfl, rfl, rfl, rfl, rfl, rfl, rfl, rfl, rfl, rfl, rfl, rfl, rfl, rfl, rfl, rfl, trivial⟩, ⟨fa2.1, fa1.1, fa0.1, q5.1, q4.1, q3.1, ta2, ⟨da2, ?_, ?_⟩⟩⟩
          · exact ta2.1
          · have z0 := fa0.2.2
            have z1 := fa1.2.2
            have z2 := fa2.2.2
            simp only [six, wt2]
            omega
        · have na2 := of_decide_eq_false qa2
          refine ⟨⟨S3.1, sa1, sa0, r5, r4, r3, da1⟩, ⟨rfl, rfl, rfl, rfl, rfl, rfl, rfl, rfl, rfl, rfl, rfl, rfl, rfl, rfl, rfl, rfl, rfl, rfl, rfl, rfl, trivial⟩, ⟨ua3, fa1.1, fa0.1, q5.1, q4.1, q3.1, ta1, ⟨0, ?_, ?_⟩⟩⟩
          · exact Int.le_refl _
          · have z0 := fa0.2.2
            have z1 := fa1.2.2
            have y2 := ta1.1
            simp only [six, wt2]
            omega
      · have na1 := of_decide_eq_false qa1
        refine ⟨⟨S3.1, S3.2, sa0, r5, r4, r3, da0⟩, ⟨rfl, rfl, rfl, rfl, rfl, rfl, rfl, rfl, rfl, rfl, rfl, rfl, rfl, rfl, rfl, rfl, rfl, rfl, rfl, rfl, trivial⟩, ⟨ua3, ub3, fa0.1, q5.1, q4.1, q3.1, ta0, ⟨0, ?_, ?_⟩⟩⟩
        · exact Int.le_refl _
        · have z0 := fa0.2.2
          have y1 := ta0.1
          simp only [six, wt2]
          omega
    · have na0 := of_decide_eq_false qa0
      refine ⟨⟨S3.1, S3.2, S3.3, r5, r4, r3, C5⟩, ⟨rfl, rfl, rfl, rfl, rfl, rfl, rfl, rfl, rfl, rfl, rfl, rfl, rfl, rfl, rfl, rfl, rfl, rfl, rfl, rfl, trivial⟩, ⟨ua3, ub3, uc3, q5.1, q4.1, q3.1, v5, ⟨0, ?_, ?_⟩⟩⟩
      · exact Int.le_refl _
      · have y0 := v5.1
        simp only [six, wt2]
        omega
  obtain ⟨ua2, ub2, uc2, ud2, ue2, uf2, ug2, k2, kk2, t2⟩ := T2
  simp only [six, wt2] at t2
  refine ⟨⟨ub, uu⟩, fun h6 l6 m6 => ⟨⟨uf2, m6.2.1, bit0⟩, fun s6 e6 f6 => ⟨⟨f6.1, u0, bit0⟩, fun r6 g6 q6 => ?_⟩⟩⟩
  obtain ⟨C6, w6, v6, p6⟩ := row m6 f6 q6 uf2 u0
  rw [w6]
  refine ⟨⟨ub, uz⟩, fun h7 l7 m7 => ⟨⟨ue2, m7.2.1, bit0⟩, fun s7 e7 f7 => ⟨⟨f7.1, v6, bit0⟩, fun r7 g7 q7 => ?_⟩⟩⟩
  obtain ⟨C7, w7, v7, p7⟩ := row m7 f7 q7 ue2 v6
  rw [w7]
  refine ⟨⟨ub, uy⟩, fun h8 l8 m8 => ⟨⟨ud2, m8.2.1, bit0⟩, fun s8 e8 f8 => ⟨⟨f8.1, v7, bit0⟩, fun r8 g8 q8 => ?_⟩⟩⟩
  obtain ⟨C8, w8, v8, p8⟩ := row m8 f8 q8 ud2 v7
  rw [w8]
  refine ⟨⟨ub, ux⟩, fun h9 l9 m9 => ⟨⟨uc2, m9.2.1, bit0⟩, fun s9 e9 f9 => ⟨⟨f9.1, v8, bit0⟩, fun r9 g9 q9 => ?_⟩⟩⟩
  obtain ⟨C9, w9, v9, p9⟩ := row m9 f9 q9 uc2 v8
  rw [w9]
  refine ⟨fun S1 T1 => ?_, ?_⟩
  rotate_left
  · clear p6 p7 p8 p9
    refine bcase_iff.mpr ⟨fun qa0 => ⟨⟨ub2, v9, bit0⟩, fun sa0 da0 fa0 => ?_⟩, fun qa0 => ?_⟩
    · have ta0 := bit_u fa0.2.1
      refine bcase_iff.mpr ⟨fun qa1 => ⟨⟨ua2, ta0, bit0⟩, fun sa1 da1 fa1 => ?_⟩, fun qa1 => ?_⟩
      · have ta1 := bit_u fa1.2.1
        refine ⟨⟨sa1, sa0, r9, r8, r7, r6, da1⟩, ⟨rfl, rfl, rfl, rfl, rfl, rfl, rfl, rfl, rfl, rfl, rfl, rfl, rfl, rfl, rfl, rfl, rfl, rfl, rfl, rfl, trivial⟩, ⟨fa1.1, fa0.1, q9.1, q8.1, q7.1, q6.1, ta1, ⟨da1, ?_, ?_⟩⟩⟩
        · exact ta1.1
        · have z0 := fa0.2.2
          have z1 := fa1.2.2
          simp only [six, wt1]
          omega
      · have na1 := of_decide_eq_false qa1
        refine ⟨⟨S2.1, sa0, r9, r8, r7, r6, da0⟩, ⟨rfl, rfl, rfl, rfl, rfl, rfl, rfl, rfl, rfl, rfl, rfl, rfl, rfl, rfl, rfl, rfl, rfl, rfl, rfl, rfl, trivial⟩, ⟨ua2, fa0.1, q9.1, q8.1, q7.1, q6.1, ta0, ⟨0, ?_, ?_⟩⟩⟩
        · exact Int.le_refl _
        · have z0 := fa0.2.2
          have y1 := ta0.1
          simp only [six, wt1]
          omega
    · have na0 := of_decide_eq_false qa0
      refine ⟨⟨S2.1, S2.2, r9, r8, r7, r6, C9⟩, ⟨rfl, rfl, rfl, rfl, rfl, rfl, rfl, rfl, rfl, rfl, rfl, rfl, rfl, rfl, rfl, rfl, rfl, rfl, rfl, rfl, trivial⟩, ⟨ua2, ub2, q9.1, q8.1, q7.1, q6.1, v9, ⟨0, ?_, ?_⟩⟩⟩
      · exact Int.le_refl _
      · have y0 := v9.1
        simp only [six, wt1]
        omega
  obtain ⟨ua1, ub1, uc1, ud1, ue1, uf1, ug1, k1, kk1, t1⟩ := T1
  simp only [six, wt1] at t1
  refine ⟨⟨ua, uu⟩, fun h10 l10 m10 => ⟨⟨ue1, m10.2.1, bit0⟩, fun s10 e10 f10 => ⟨⟨f10.1, u0, bit0⟩, fun r10 g10 q10 => ?_⟩⟩⟩
  obtain ⟨C10, w10, v10, p10⟩ := row m10 f10 q10 ue1 u0
  rw [w10]
  refine ⟨⟨ua, uz⟩, fun h11 l11 m11 => ⟨⟨ud1, m11.2.1, bit0⟩, fun s11 e11 f11 => ⟨⟨f11.1, v10, bit0⟩, fun r11 g11 q11 => ?_⟩⟩⟩
  obtain ⟨C11, w11, v11, p11⟩ := row m11 f11 q11 ud1 v10
  rw [w11]
  refine ⟨⟨ua, uy⟩, fun h12 l12 m12 => ⟨⟨uc1, m12.2.1, bit0⟩, fun s12 e12 f12 => ⟨⟨f12.1, v11, bit0⟩, fun r12 g12 q12 => ?_⟩⟩⟩
  obtain ⟨C12, w12, v12, p12⟩ := row m12 f12 q12 uc1 v11
  rw [w12]
  refine ⟨⟨ua, ux⟩, fun h13 l13 m13 => ⟨⟨ub1, m13.2.1, bit0⟩, fun s13 e13 f13 => ⟨⟨f13.1, v12, bit0⟩, fun r13 g13 q13 => ?_⟩⟩⟩
  obtain ⟨C13, w13, v13, p13⟩ := row m13 f13 q13 ub1 v12
  rw [w13]
  refine ⟨fun S0 T0 => ?_, ?_⟩
  rotate_left
  · clear p10 p11 p12 p13
    refine bcase_iff.mpr ⟨fun qa0 => ⟨⟨ua1, v13, bit0⟩, fun sa0 da0 fa0 => ?_⟩, fun qa0 => ?_⟩
    · have ta0 := bit_u fa0.2.1
      refine ⟨⟨sa0, r13, r12, r11, r10, S1.6, da0⟩, ⟨rfl, rfl, rfl, rfl, rfl, rfl, rfl, rfl, rfl, rfl, rfl, rfl, rfl, rfl, rfl, rfl, rfl, rfl, rfl, rfl, trivial⟩, ⟨fa0.1, q13.1, q12.1, q11.1, q10.1, uf1, ta0, ⟨da0, ?_, ?_⟩⟩⟩
      · exact ta0.1
      · have z0 := fa0.2.2
        simp only [six, wt0]
        omega
    · have na0 := of_decide_eq_false qa0
      refine ⟨⟨S1.1, r13, r12, r11, r10, S1.6, C13⟩, ⟨rfl, rfl, rfl, rfl, rfl, rfl, rfl, rfl, rfl, rfl, rfl, rfl, rfl, rfl, rfl, rfl, rfl, rfl, rfl, rfl, trivial⟩, ⟨ua1, q13.1, q12.1, q11.1, q10.1, uf1, v13, ⟨0, ?_, ?_⟩⟩⟩
      · exact Int.le_refl _
      · have y0 := v13.1
        simp only [six, wt0]
        omega
  obtain ⟨ua0, ub0, uc0, ud0, ue0, uf0, ug0, k0, kk0, t0⟩ := T0
  simp only [six, wt0] at t0
  have M := mul_end ⟨ua0, ub0, uc0, ud0⟩ ue0 uf0 (P := mulS a b c d x y z u) (k := k0 + k1 + k2 + k3) (by omega) (by unfold mulS six; omega) (by unfold mulS; have b1 := m1.2.2.2.2; have b2 := m2.2.2.2.2; have b3 := m3.2.2.2.2; have b4 := m4.2.2.2.2; have b5 := m5.2.2.2.2; have b6 := m6.2.2.2.2; have b7 := m7.2.2.2.2; have b8 := m8.2.2.2.2; have b9 := m9.2.2.2.2; have b10 := m10.2.2.2.2; have b11 := m11.2.2.2.2; have b12 := m12.2.2.2.2; have b13 := m13.2.2.2.2; omega)
  exact M.symm
end Go.Proofs.YtikbpleaaaeibaaGreat
