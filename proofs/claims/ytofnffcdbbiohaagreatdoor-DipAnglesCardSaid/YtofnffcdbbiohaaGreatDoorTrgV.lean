/- What the functions of the program's numbers with 256 digits ask. -/
import Derived.Test.YtofnffcdbbiohaaGreatDoorTrgS
namespace Go.Proofs.YtofnffcdbbiohaaGreatDoor
open Go Go.Abs Go.RowKit
set_option linter.unusedVariables false
set_option linter.unusedSimpArgs false
theorem vc_trsub (a b c d x y z u : Int) (K : Value → Prop) : callsX Tryz.prog (ΓTs) (four) 76 [vN a b c d, vN x y z u] K = (
 (U64 d ∧ U64 u ∧ Bit 0) ∧ ∀ (s d_1 : Int), SubR d u 0 s d_1 → (U64 c ∧ U64 z ∧ Bit d_1) ∧ ∀ (s_1 d : Int), SubR c z d_1 s_1 d → (U64 b ∧ U64 y ∧ Bit d) ∧ ∀ (s_2 d_2 : Int), SubR b y d s_2 d_2 → (U64 a ∧ U64 x ∧ Bit d_2) ∧ ∀ (s_3 d : Int), SubR a x d_2 s_3 d → K (Value.agg #[Value.int IntKind.u64 s_3, Value.int IntKind.u64 s_2, Value.int IntKind.u64 s_1, Value.int IntKind.u64 s])) := by kernel_rfl
theorem vc_trdiv (a b c d t y : Int) (K : Value → Prop) : callsX Tryz.prog (ΓTd) (four) 105 [vN a b c d, .int .u64 t, .int .u64 y] K = (
 (U64 t ∧ U64 a ∧ U64 y ∧ t < y) ∧
 ∀ (q r : Int), DivR t a y q r → (U64 r ∧ U64 b ∧ U64 y ∧ r < y) ∧ ∀ (q_1 r_1 : Int), DivR r b y q_1 r_1 → (U64 r_1 ∧ U64 c ∧ U64 y ∧ r_1 < y) ∧ ∀ (q_2 r : Int), DivR r_1 c y q_2 r → (U64 r ∧ U64 d ∧ U64 y ∧ r < y) ∧ ∀ (q_3 r_2 : Int), DivR r d y q_3 r_2 → K (Value.agg #[Value.int IntKind.u64 q, Value.int IntKind.u64 q_1, Value.int IntKind.u64 q_2, Value.int IntKind.u64 q_3])) := by kernel_rfl
theorem vc_trmul (a b c d x y z u : Int) (K : Value → Prop) : callsX Tryz.prog (ΓTm) (AMul) 77 [vN a b c d, vN x y z u] K = (
 (U64 d ∧ U64 y) ∧
 ∀ (h l : Int),
 MulR d y h l →
 (U64 0 ∧ U64 l ∧ Bit 0) ∧
 ∀ (s d_1 : Int),
 AddR 0 l 0 s d_1 →
 (U64 s ∧ U64 0 ∧ Bit 0) ∧
 ∀ (s_1 d_2 : Int),
 AddR s 0 0 s_1 d_2 →
 (U64 d ∧ U64 x) ∧
 ∀ (h_4 l : Int),
 MulR d x h_4 l →
 (U64 0 ∧ U64 l ∧ Bit 0) ∧
 ∀ (s d_3 : Int),
 AddR 0 l 0 s d_3 →
 (U64 s ∧ U64 (IntKind.u64.wrap (IntKind.u64.wrap (h + d_1) + d_2)) ∧ Bit 0) ∧
 ∀ (s_2 d_4 : Int),
 AddR s (IntKind.u64.wrap (IntKind.u64.wrap (h + d_1) + d_2)) 0 s_2 d_4 →
 (∀ (s : Six),
 SixR 3 0 0 0 0 s_2 s_1 (IntKind.u64.wrap (IntKind.u64.wrap (h_4 + d_3) + d_4)) s.1 s.2 s.3 s.4 s.5 s.6 s.7 →
 (U64 c ∧ U64 z) ∧
 ∀ (h l : Int),
 MulR c z h l →
 (U64 s.6 ∧ U64 l ∧ Bit 0) ∧
 ∀ (s_3 d_5 : Int),
 AddR s.6 l 0 s_3 d_5 →
 (U64 s_3 ∧ U64 0 ∧ Bit 0) ∧
 ∀ (s_4 d_6 : Int),
 AddR s_3 0 0 s_4 d_6 →
 (U64 c ∧ U64 y) ∧
 ∀ (h_10 l : Int),
 MulR c y h_10 l →
 (U64 s.5 ∧ U64 l ∧ Bit 0) ∧
 ∀ (s_5 d_7 : Int),
 AddR s.5 l 0 s_5 d_7 →
 (U64 s_5 ∧ U64 (IntKind.u64.wrap (IntKind.u64.wrap (h + d_5) + d_6)) ∧ Bit 0) ∧
 ∀ (s_6 d_8 : Int),
 AddR s_5 (IntKind.u64.wrap (IntKind.u64.wrap (h + d_5) + d_6)) 0 s_6 d_8 →
 (U64 c ∧ U64 x) ∧
 ∀ (h l : Int),
 MulR c x h l →
 (U64 s.4 ∧ U64 l ∧ Bit 0) ∧
 ∀ (s_7 d_9 : Int),
 AddR s.4 l 0 s_7 d_9 →
 (U64 s_7 ∧ U64 (IntKind.u64.wrap (IntKind.u64.wrap (h_10 + d_7) + d_8)) ∧ Bit 0) ∧
 ∀ (s_8 d_10 : Int),
 AddR s_7 (IntKind.u64.wrap (IntKind.u64.wrap (h_10 + d_7) + d_8)) 0 s_8 d_10 →
 (∀ (s_9 : Six),
 SixR (IntKind.i64.wrap (3 - 1)) s.1 s.2 s.3 s_8 s_6 s_4 (IntKind.u64.wrap (IntKind.u64.wrap (h + d_9) + d_10)) s_9.1 s_9.2 s_9.3 s_9.4 s_9.5 s_9.6 s_9.7 →
 (U64 b ∧ U64 u) ∧
 ∀ (h l : Int),
 MulR b u h l →
 (U64 s_9.6 ∧ U64 l ∧ Bit 0) ∧
 ∀ (s d_11 : Int),
 AddR s_9.6 l 0 s d_11 →
 (U64 s ∧ U64 0 ∧ Bit 0) ∧
 ∀ (s_10 d_12 : Int),
 AddR s 0 0 s_10 d_12 →
 (U64 b ∧ U64 z) ∧
 ∀ (h_19 l : Int),
 MulR b z h_19 l →
 (U64 s_9.5 ∧ U64 l ∧ Bit 0) ∧
 ∀ (s d_13 : Int),
 AddR s_9.5 l 0 s d_13 →
 (U64 s ∧ U64 (IntKind.u64.wrap (IntKind.u64.wrap (h + d_11) + d_12)) ∧ Bit 0) ∧
 ∀ (s_11 d_14 : Int),
 AddR s (IntKind.u64.wrap (IntKind.u64.wrap (h + d_11) + d_12)) 0 s_11 d_14 →
 (U64 b ∧ U64 y) ∧
 ∀ (h l : Int),
 MulR b y h l →
 (U64 s_9.4 ∧ U64 l ∧ Bit 0) ∧
 ∀ (s d_15 : Int),
 AddR s_9.4 l 0 s d_15 →
 (U64 s ∧ U64 (IntKind.u64.wrap (IntKind.u64.wrap (h_19 + d_13) + d_14)) ∧ Bit 0) ∧
 ∀ (s_12 d_16 : Int),
 AddR s (IntKind.u64.wrap (IntKind.u64.wrap (h_19 + d_13) + d_14)) 0 s_12 d_16 →
 (U64 b ∧ U64 x) ∧
 ∀ (h_25 l : Int),
 MulR b x h_25 l →
 (U64 s_9.3 ∧ U64 l ∧ Bit 0) ∧
 ∀ (s d_17 : Int),
 AddR s_9.3 l 0 s d_17 →
 (U64 s ∧ U64 (IntKind.u64.wrap (IntKind.u64.wrap (h + d_15) + d_16)) ∧ Bit 0) ∧
 ∀ (s_13 d_18 : Int),
 AddR s (IntKind.u64.wrap (IntKind.u64.wrap (h + d_15) + d_16)) 0 s_13 d_18 →
 (∀ (s : Six),
 SixR (IntKind.i64.wrap (IntKind.i64.wrap (3 - 1) - 1)) s_9.1 s_9.2 s_13 s_12 s_11 s_10 (IntKind.u64.wrap (IntKind.u64.wrap (h_25 + d_17) + d_18)) s.1 s.2 s.3 s.4 s.5 s.6 s.7 →
 (U64 a ∧ U64 u) ∧
 ∀ (h l : Int),
 MulR a u h l →
 (U64 s.5 ∧ U64 l ∧ Bit 0) ∧
 ∀ (s_14 d_19 : Int),
 AddR s.5 l 0 s_14 d_19 →
 (U64 s_14 ∧ U64 0 ∧ Bit 0) ∧
 ∀ (s_15 d_20 : Int),
 AddR s_14 0 0 s_15 d_20 →
 (U64 a ∧ U64 z) ∧
 ∀ (h_31 l : Int),
 MulR a z h_31 l →
 (U64 s.4 ∧ U64 l ∧ Bit 0) ∧
 ∀ (s_16 d_21 : Int),
 AddR s.4 l 0 s_16 d_21 →
 (U64 s_16 ∧ U64 (IntKind.u64.wrap (IntKind.u64.wrap (h + d_19) + d_20)) ∧ Bit 0) ∧
 ∀ (s_17 d_22 : Int),
 AddR s_16 (IntKind.u64.wrap (IntKind.u64.wrap (h + d_19) + d_20)) 0 s_17 d_22 →
 (U64 a ∧ U64 y) ∧
 ∀ (h l : Int),
 MulR a y h l →
 (U64 s.3 ∧ U64 l ∧ Bit 0) ∧
 ∀ (s_18 d_23 : Int),
 AddR s.3 l 0 s_18 d_23 →
 (U64 s_18 ∧ U64 (IntKind.u64.wrap (IntKind.u64.wrap (h_31 + d_21) + d_22)) ∧ Bit 0) ∧
 ∀ (s_19 d_24 : Int),
 AddR s_18 (IntKind.u64.wrap (IntKind.u64.wrap (h_31 + d_21) + d_22)) 0 s_19 d_24 →
 (U64 a ∧ U64 x) ∧
 ∀ (h_37 l : Int),
 MulR a x h_37 l →
 (U64 s.2 ∧ U64 l ∧ Bit 0) ∧
 ∀ (s_20 d_25 : Int),
 AddR s.2 l 0 s_20 d_25 →
 (U64 s_20 ∧ U64 (IntKind.u64.wrap (IntKind.u64.wrap (h + d_23) + d_24)) ∧ Bit 0) ∧
 ∀ (s_21 d_26 : Int),
 AddR s_20 (IntKind.u64.wrap (IntKind.u64.wrap (h + d_23) + d_24)) 0 s_21 d_26 →
 (∀ (s_22 : Six), SixR (IntKind.i64.wrap (IntKind.i64.wrap (IntKind.i64.wrap (3 - 1) - 1) - 1)) s.1 s_21 s_19 s_17 s_15 s.6 (IntKind.u64.wrap (IntKind.u64.wrap (h_37 + d_25) + d_26)) s_22.1 s_22.2 s_22.3 s_22.4 s_22.5 s_22.6 s_22.7 → K (Value.agg #[Value.int IntKind.u64 s_22.1, Value.int IntKind.u64 s_22.2, Value.int IntKind.u64 s_22.3, Value.int IntKind.u64 s_22.4])) ∧
 bcase (decide (IntKind.u64.wrap (IntKind.u64.wrap (h_37 + d_25) + d_26) > 0))
 ((U64 s.1 ∧ U64 (IntKind.u64.wrap (IntKind.u64.wrap (h_37 + d_25) + d_26)) ∧ Bit 0) ∧
 ∀ (s_22 d_27 : Int),
 AddR s.1 (IntKind.u64.wrap (IntKind.u64.wrap (h_37 + d_25) + d_26)) 0 s_22 d_27 →
 ∃ (s_23 : Six),
 (IntKind.i64.wrap (IntKind.i64.wrap (IntKind.i64.wrap (3 - 1) - 1) - 1) = IntKind.i64.wrap (IntKind.i64.wrap (IntKind.i64.wrap (3 - 1) - 1) - 1) ∧
 d_27 = s_23.7 ∧ a = a ∧ b = b ∧ c = c ∧ d = d ∧ x = x ∧ y = y ∧ z = z ∧ u = u ∧ Int.ofNat 0 = 0 ∧ Int.ofNat 0 = 0 ∧ Int.ofNat 0 = 0 ∧ Int.ofNat 0 = 0 ∧ s_22 = s_23.1 ∧ s_21 = s_23.2 ∧ s_19 = s_23.3 ∧ s_17 = s_23.4 ∧ s_15 = s_23.5 ∧ s.6 = s_23.6 ∧ True) ∧
 SixR (IntKind.i64.wrap (IntKind.i64.wrap (IntKind.i64.wrap (3 - 1) - 1) - 1)) s.1 s_21 s_19 s_17 s_15 s.6 (IntKind.u64.wrap (IntKind.u64.wrap (h_37 + d_25) + d_26)) s_23.1 s_23.2 s_23.3 s_23.4 s_23.5 s_23.6 s_23.7)
 (∃ (s_22 : Six),
 (IntKind.i64.wrap (IntKind.i64.wrap (IntKind.i64.wrap (3 - 1) - 1) - 1) = IntKind.i64.wrap (IntKind.i64.wrap (IntKind.i64.wrap (3 - 1) - 1) - 1) ∧
 IntKind.u64.wrap (IntKind.u64.wrap (h_37 + d_25) + d_26) = s_22.7 ∧ a = a ∧ b = b ∧ c = c ∧ d = d ∧ x = x ∧ y = y ∧ z = z ∧ u = u ∧ Int.ofNat 0 = 0 ∧ Int.ofNat 0 = 0 ∧ Int.ofNat 0 = 0 ∧ Int.ofNat 0 = 0 ∧ s.1 = s_22.1 ∧ s_21 = s_22.2 ∧ s_19 = s_22.3 ∧ s_17 = s_22.4 ∧ s_15 = s_22.5 ∧ s.6 = s_22.6 ∧ True) ∧
 SixR (IntKind.i64.wrap (IntKind.i64.wrap (IntKind.i64.wrap (3 - 1) - 1) - 1)) s.1 s_21 s_19 s_17 s_15 s.6 (IntKind.u64.wrap (IntKind.u64.wrap (h_37 + d_25) + d_26)) s_22.1 s_22.2 s_22.3 s_22.4 s_22.5 s_22.6 s_22.7)) ∧
 bcase (decide (IntKind.u64.wrap (IntKind.u64.wrap (h_25 + d_17) + d_18) > 0))
 ((U64 s_9.2 ∧ U64 (IntKind.u64.wrap (IntKind.u64.wrap (h_25 + d_17) + d_18)) ∧ Bit 0) ∧
 ∀ (s d_19 : Int),
 AddR s_9.2 (IntKind.u64.wrap (IntKind.u64.wrap (h_25 + d_17) + d_18)) 0 s d_19 →
 bcase (decide (d_19 > 0))
 ((U64 s_9.1 ∧ U64 d_19 ∧ Bit 0) ∧
 ∀ (s_14 d_20 : Int),
 AddR s_9.1 d_19 0 s_14 d_20 →
 ∃ (s_15 : Six),
 (IntKind.i64.wrap (IntKind.i64.wrap (3 - 1) - 1) = IntKind.i64.wrap (IntKind.i64.wrap (3 - 1) - 1) ∧ d_20 = s_15.7 ∧ a = a ∧ b = b ∧ c = c ∧ d = d ∧ x = x ∧ y = y ∧ z = z ∧ u = u ∧ Int.ofNat 0 = 0 ∧ Int.ofNat 0 = 0 ∧ Int.ofNat 0 = 0 ∧ Int.ofNat 0 = 0 ∧ s_14 = s_15.1 ∧ s = s_15.2 ∧ s_13 = s_15.3 ∧ s_12 = s_15.4 ∧ s_11 = s_15.5 ∧ s_10 = s_15.6 ∧ True) ∧
 SixR (IntKind.i64.wrap (IntKind.i64.wrap (3 - 1) - 1)) s_9.1 s_9.2 s_13 s_12 s_11 s_10 (IntKind.u64.wrap (IntKind.u64.wrap (h_25 + d_17) + d_18)) s_15.1 s_15.2 s_15.3 s_15.4 s_15.5 s_15.6 s_15.7)
 (∃ (s_14 : Six),
 (IntKind.i64.wrap (IntKind.i64.wrap (3 - 1) - 1) = IntKind.i64.wrap (IntKind.i64.wrap (3 - 1) - 1) ∧ d_19 = s_14.7 ∧ a = a ∧ b = b ∧ c = c ∧ d = d ∧ x = x ∧ y = y ∧ z = z ∧ u = u ∧ Int.ofNat 0 = 0 ∧ Int.ofNat 0 = 0 ∧ Int.ofNat 0 = 0 ∧ Int.ofNat 0 = 0 ∧ s_9.1 = s_14.1 ∧ s = s_14.2 ∧ s_13 = s_14.3 ∧ s_12 = s_14.4 ∧ s_11 = s_14.5 ∧ s_10 = s_14.6 ∧ True) ∧
 SixR (IntKind.i64.wrap (IntKind.i64.wrap (3 - 1) - 1)) s_9.1 s_9.2 s_13 s_12 s_11 s_10 (IntKind.u64.wrap (IntKind.u64.wrap (h_25 + d_17) + d_18)) s_14.1 s_14.2 s_14.3 s_14.4 s_14.5 s_14.6 s_14.7))
 (∃ (s : Six),
 (IntKind.i64.wrap (IntKind.i64.wrap (3 - 1) - 1) = IntKind.i64.wrap (IntKind.i64.wrap (3 - 1) - 1) ∧ IntKind.u64.wrap (IntKind.u64.wrap (h_25 + d_17) + d_18) = s.7 ∧ a = a ∧ b = b ∧ c = c ∧ d = d ∧ x = x ∧ y = y ∧ z = z ∧ u = u ∧ Int.ofNat 0 = 0 ∧ Int.ofNat 0 = 0 ∧ Int.ofNat 0 = 0 ∧ Int.ofNat 0 = 0 ∧ s_9.1 = s.1 ∧ s_9.2 = s.2 ∧ s_13 = s.3 ∧ s_12 = s.4 ∧ s_11 = s.5 ∧ s_10 = s.6 ∧ True) ∧
 SixR (IntKind.i64.wrap (IntKind.i64.wrap (3 - 1) - 1)) s_9.1 s_9.2 s_13 s_12 s_11 s_10 (IntKind.u64.wrap (IntKind.u64.wrap (h_25 + d_17) + d_18)) s.1 s.2 s.3 s.4 s.5 s.6 s.7)) ∧
 bcase (decide (IntKind.u64.wrap (IntKind.u64.wrap (h + d_9) + d_10) > 0))
 ((U64 s.3 ∧ U64 (IntKind.u64.wrap (IntKind.u64.wrap (h + d_9) + d_10)) ∧ Bit 0) ∧
 ∀ (s_9 d_11 : Int),
 AddR s.3 (IntKind.u64.wrap (IntKind.u64.wrap (h + d_9) + d_10)) 0 s_9 d_11 →
 bcase (decide (d_11 > 0))
 ((U64 s.2 ∧ U64 d_11 ∧ Bit 0) ∧
 ∀ (s_10 d_12 : Int),
 AddR s.2 d_11 0 s_10 d_12 →
 bcase (decide (d_12 > 0))
 ((U64 s.1 ∧ U64 d_12 ∧ Bit 0) ∧
 ∀ (s_11 d_13 : Int),
 AddR s.1 d_12 0 s_11 d_13 →
 ∃ (s_12 : Six),
 (IntKind.i64.wrap (3 - 1) = IntKind.i64.wrap (3 - 1) ∧ d_13 = s_12.7 ∧ a = a ∧ b = b ∧ c = c ∧ d = d ∧ x = x ∧ y = y ∧ z = z ∧ u = u ∧ Int.ofNat 0 = 0 ∧ Int.ofNat 0 = 0 ∧ Int.ofNat 0 = 0 ∧ Int.ofNat 0 = 0 ∧ s_11 = s_12.1 ∧ s_10 = s_12.2 ∧ s_9 = s_12.3 ∧ s_8 = s_12.4 ∧ s_6 = s_12.5 ∧ s_4 = s_12.6 ∧ True) ∧
 SixR (IntKind.i64.wrap (3 - 1)) s.1 s.2 s.3 s_8 s_6 s_4 (IntKind.u64.wrap (IntKind.u64.wrap (h + d_9) + d_10)) s_12.1 s_12.2 s_12.3 s_12.4 s_12.5 s_12.6 s_12.7)
 (∃ (s_11 : Six),
 (IntKind.i64.wrap (3 - 1) = IntKind.i64.wrap (3 - 1) ∧ d_12 = s_11.7 ∧ a = a ∧ b = b ∧ c = c ∧ d = d ∧ x = x ∧ y = y ∧ z = z ∧ u = u ∧ Int.ofNat 0 = 0 ∧ Int.ofNat 0 = 0 ∧ Int.ofNat 0 = 0 ∧ Int.ofNat 0 = 0 ∧ s.1 = s_11.1 ∧ s_10 = s_11.2 ∧ s_9 = s_11.3 ∧ s_8 = s_11.4 ∧ s_6 = s_11.5 ∧ s_4 = s_11.6 ∧ True) ∧
 SixR (IntKind.i64.wrap (3 - 1)) s.1 s.2 s.3 s_8 s_6 s_4 (IntKind.u64.wrap (IntKind.u64.wrap (h + d_9) + d_10)) s_11.1 s_11.2 s_11.3 s_11.4 s_11.5 s_11.6 s_11.7))
 (∃ (s_10 : Six),
 (IntKind.i64.wrap (3 - 1) = IntKind.i64.wrap (3 - 1) ∧ d_11 = s_10.7 ∧ a = a ∧ b = b ∧ c = c ∧ d = d ∧ x = x ∧ y = y ∧ z = z ∧ u = u ∧ Int.ofNat 0 = 0 ∧ Int.ofNat 0 = 0 ∧ Int.ofNat 0 = 0 ∧ Int.ofNat 0 = 0 ∧ s.1 = s_10.1 ∧ s.2 = s_10.2 ∧ s_9 = s_10.3 ∧ s_8 = s_10.4 ∧ s_6 = s_10.5 ∧ s_4 = s_10.6 ∧ True) ∧
 SixR (IntKind.i64.wrap (3 - 1)) s.1 s.2 s.3 s_8 s_6 s_4 (IntKind.u64.wrap (IntKind.u64.wrap (h + d_9) + d_10)) s_10.1 s_10.2 s_10.3 s_10.4 s_10.5 s_10.6 s_10.7))
 (∃ (s_9 : Six),
 (IntKind.i64.wrap (3 - 1) = IntKind.i64.wrap (3 - 1) ∧ IntKind.u64.wrap (IntKind.u64.wrap (h + d_9) + d_10) = s_9.7 ∧ a = a ∧ b = b ∧ c = c ∧ d = d ∧ x = x ∧ y = y ∧ z = z ∧ u = u ∧ Int.ofNat 0 = 0 ∧ Int.ofNat 0 = 0 ∧ Int.ofNat 0 = 0 ∧ Int.ofNat 0 = 0 ∧ s.1 = s_9.1 ∧ s.2 = s_9.2 ∧ s.3 = s_9.3 ∧ s_8 = s_9.4 ∧ s_6 = s_9.5 ∧ s_4 = s_9.6 ∧ True) ∧
 SixR (IntKind.i64.wrap (3 - 1)) s.1 s.2 s.3 s_8 s_6 s_4 (IntKind.u64.wrap (IntKind.u64.wrap (h + d_9) + d_10)) s_9.1 s_9.2 s_9.3 s_9.4 s_9.5 s_9.6 s_9.7)) ∧
 bcase (decide (IntKind.u64.wrap (IntKind.u64.wrap (h_4 + d_3) + d_4) > 0))
 ((U64 0 ∧ U64 (IntKind.u64.wrap (IntKind.u64.wrap (h_4 + d_3) + d_4)) ∧ Bit 0) ∧
 ∀ (s d_5 : Int),
 AddR 0 (IntKind.u64.wrap (IntKind.u64.wrap (h_4 + d_3) + d_4)) 0 s d_5 →
 bcase (decide (d_5 > 0))
 ((U64 0 ∧ U64 d_5 ∧ Bit 0) ∧
 ∀ (s_3 d_6 : Int),
 AddR 0 d_5 0 s_3 d_6 →
 bcase (decide (d_6 > 0))
 ((U64 0 ∧ U64 d_6 ∧ Bit 0) ∧
 ∀ (s_4 d_7 : Int),
 AddR 0 d_6 0 s_4 d_7 →
 bcase (decide (d_7 > 0))
 ((U64 0 ∧ U64 d_7 ∧ Bit 0) ∧
 ∀ (s_5 d_8 : Int),
 AddR 0 d_7 0 s_5 d_8 →
 ∃ (s_6 : Six), (Int.ofNat 3 = 3 ∧ d_8 = s_6.7 ∧ a = a ∧ b = b ∧ c = c ∧ d = d ∧ x = x ∧ y = y ∧ z = z ∧ u = u ∧ Int.ofNat 0 = 0 ∧ Int.ofNat 0 = 0 ∧ Int.ofNat 0 = 0 ∧ Int.ofNat 0 = 0 ∧ s_5 = s_6.1 ∧ s_4 = s_6.2 ∧ s_3 = s_6.3 ∧ s = s_6.4 ∧ s_2 = s_6.5 ∧ s_1 = s_6.6 ∧ True) ∧ SixR 3 0 0 0 0 s_2 s_1 (IntKind.u64.wrap (IntKind.u64.wrap (h_4 + d_3) + d_4)) s_6.1 s_6.2 s_6.3 s_6.4 s_6.5 s_6.6 s_6.7)
 (∃ (s_5 : Six), (Int.ofNat 3 = 3 ∧ d_7 = s_5.7 ∧ a = a ∧ b = b ∧ c = c ∧ d = d ∧ x = x ∧ y = y ∧ z = z ∧ u = u ∧ Int.ofNat 0 = 0 ∧ Int.ofNat 0 = 0 ∧ Int.ofNat 0 = 0 ∧ Int.ofNat 0 = 0 ∧ 0 = s_5.1 ∧ s_4 = s_5.2 ∧ s_3 = s_5.3 ∧ s = s_5.4 ∧ s_2 = s_5.5 ∧ s_1 = s_5.6 ∧ True) ∧ SixR 3 0 0 0 0 s_2 s_1 (IntKind.u64.wrap (IntKind.u64.wrap (h_4 + d_3) + d_4)) s_5.1 s_5.2 s_5.3 s_5.4 s_5.5 s_5.6 s_5.7))
 (∃ (s_4 : Six), (Int.ofNat 3 = 3 ∧ d_6 = s_4.7 ∧ a = a ∧ b = b ∧ c = c ∧ d = d ∧ x = x ∧ y = y ∧ z = z ∧ u = u ∧ Int.ofNat 0 = 0 ∧ Int.ofNat 0 = 0 ∧ Int.ofNat 0 = 0 ∧ Int.ofNat 0 = 0 ∧ 0 = s_4.1 ∧ 0 = s_4.2 ∧ s_3 = s_4.3 ∧ s = s_4.4 ∧ s_2 = s_4.5 ∧ s_1 = s_4.6 ∧ True) ∧ SixR 3 0 0 0 0 s_2 s_1 (IntKind.u64.wrap (IntKind.u64.wrap (h_4 + d_3) + d_4)) s_4.1 s_4.2 s_4.3 s_4.4 s_4.5 s_4.6 s_4.7))
 (∃ (s_3 : Six), (Int.ofNat 3 = 3 ∧ d_5 = s_3.7 ∧ a = a ∧ b = b ∧ c = c ∧ d = d ∧ x = x ∧ y = y ∧ z = z ∧ u = u ∧ Int.ofNat 0 = 0 ∧ Int.ofNat 0 = 0 ∧ Int.ofNat 0 = 0 ∧ Int.ofNat 0 = 0 ∧ 0 = s_3.1 ∧ 0 = s_3.2 ∧ 0 = s_3.3 ∧ s = s_3.4 ∧ s_2 = s_3.5 ∧ s_1 = s_3.6 ∧ True) ∧ SixR 3 0 0 0 0 s_2 s_1 (IntKind.u64.wrap (IntKind.u64.wrap (h_4 + d_3) + d_4)) s_3.1 s_3.2 s_3.3 s_3.4 s_3.5 s_3.6 s_3.7))
 (∃ (s : Six),
 (Int.ofNat 3 = 3 ∧ IntKind.u64.wrap (IntKind.u64.wrap (h_4 + d_3) + d_4) = s.7 ∧ a = a ∧ b = b ∧ c = c ∧ d = d ∧ x = x ∧ y = y ∧ z = z ∧ u = u ∧ Int.ofNat 0 = 0 ∧ Int.ofNat 0 = 0 ∧ Int.ofNat 0 = 0 ∧ Int.ofNat 0 = 0 ∧ 0 = s.1 ∧ 0 = s.2 ∧ 0 = s.3 ∧ 0 = s.4 ∧ s_2 = s.5 ∧ s_1 = s.6 ∧ True) ∧ SixR 3 0 0 0 0 s_2 s_1 (IntKind.u64.wrap (IntKind.u64.wrap (h_4 + d_3) + d_4)) s.1 s.2 s.3 s.4 s.5 s.6 s.7)) := by kernel_rfl
end Go.Proofs.YtofnffcdbbiohaaGreatDoor
