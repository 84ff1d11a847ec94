/- What the program's angles in 256 digits and their series ask. -/
import Derived.Test.YtofnffcdbbiohaaGreatDoorTrgT
namespace Go.Proofs.YtofnffcdbbiohaaGreatDoor
open Go Go.Abs Go.RowKit
set_option linter.unusedVariables false
set_option linter.unusedSimpArgs false
theorem vc_trrad (n : Int) (K : Value → Prop) : callsX Tryz.prog (ΓTr) (four) 75 [.int .i64 n] K = (
 (U64 589684135938649225 ∧ U64 (IntKind.u64.wrap n)) ∧
 ∀ (h l : Int),
 MulR 589684135938649225 (IntKind.u64.wrap n) h l →
 (U64 l ∧ U64 0 ∧ Bit 0) ∧
 ∀ (s d : Int),
 AddR l 0 0 s d →
 (U64 11820040416388919760 ∧ U64 (IntKind.u64.wrap n)) ∧
 ∀ (h_3 l : Int),
 MulR 11820040416388919760 (IntKind.u64.wrap n) h_3 l →
 (U64 l ∧ U64 (IntKind.u64.wrap (h + d)) ∧ Bit 0) ∧
 ∀ (s_1 d_1 : Int),
 AddR l (IntKind.u64.wrap (h + d)) 0 s_1 d_1 →
 (U64 1376283091369227076 ∧ U64 (IntKind.u64.wrap n)) ∧
 ∀ (h l : Int),
 MulR 1376283091369227076 (IntKind.u64.wrap n) h l →
 (U64 l ∧ U64 (IntKind.u64.wrap (h_3 + d_1)) ∧ Bit 0) ∧
 ∀ (s_2 d : Int),
 AddR l (IntKind.u64.wrap (h_3 + d_1)) 0 s_2 d →
 (U64 2611923443488327891 ∧ U64 (IntKind.u64.wrap n)) ∧
 ∀ (h_7 l : Int),
 MulR 2611923443488327891 (IntKind.u64.wrap n) h_7 l →
 (U64 l ∧ U64 (IntKind.u64.wrap (h + d)) ∧ Bit 0) ∧
 ∀ (s_3 d_2 : Int),
 AddR l (IntKind.u64.wrap (h + d)) 0 s_3 d_2 →
 (U4 s_3 s_2 s_1 s ∧ U64 ((IntKind.u64.wrap (IntKind.u64.wrap (h_7 + d_2) + IntKind.u64.wrap (3 * IntKind.u64.wrap n))).tmod 10800000) ∧ U64 10800000 ∧ (IntKind.u64.wrap (IntKind.u64.wrap (h_7 + d_2) + IntKind.u64.wrap (3 * IntKind.u64.wrap n))).tmod 10800000 < 10800000) ∧
 ∀ (e f g h : Int), IsN (((IntKind.u64.wrap (IntKind.u64.wrap (h_7 + d_2) + IntKind.u64.wrap (3 * IntKind.u64.wrap n))).tmod 10800000 * W4 + nval s_3 s_2 s_1 s) / 10800000) e f g h → K (Value.agg #[Value.int IntKind.u64 e, Value.int IntKind.u64 f, Value.int IntKind.u64 g, Value.int IntKind.u64 h])) := by kernel_rfl
theorem vc_trless (a b c d o : Int) (K : Value → Prop) : callsX Tryz.prog (ΓTl) (ALess (mulI (nval a b c d) (nval a b c d)) o) 78 [vN a b c d, .int .u64 o] K = (
 (U4 a b c d ∧ U4 a b c d) ∧
 ∀ (e f g h : Int),
 IsN (mulI (nval a b c d) (nval a b c d)) e f g h →
 ∃ (s : Ls),
 (o = o ∧ 34 = (↑s.1 : Int) ∧ a = a ∧ b = b ∧ c = c ∧ d = d ∧ Int.ofNat 0 = 0 ∧ Int.ofNat 0 = 0 ∧ Int.ofNat 0 = 0 ∧ Int.ofNat 0 = 0 ∧ e = e ∧ f = f ∧ g = g ∧ h = h ∧ 0 = s.2 ∧ 0 = s.3 ∧ 0 = s.4 ∧ 0 = s.5 ∧ True) ∧
 LsR (mulI (nval a b c d) (nval a b c d)) o s.1 s.2 s.3 s.4 s.5 ∧
 ∀ (s : Ls),
 LsR (mulI (nval a b c d) (nval a b c d)) o s.1 s.2 s.3 s.4 s.5 →
 bcase (decide ((↑s.1 : Int) > 0))
 ((U4 e f g h ∧ U64 0 ∧ U64 (IntKind.u64.wrap (IntKind.u64.wrap (IntKind.u64.wrap (IntKind.u64.wrap (2 * (↑s.1 : Int)) - 1) + o) * IntKind.u64.wrap (IntKind.u64.wrap (2 * (↑s.1 : Int)) + o))) ∧ 0 < IntKind.u64.wrap (IntKind.u64.wrap (IntKind.u64.wrap (IntKind.u64.wrap (2 * (↑s.1 : Int)) - 1) + o) * IntKind.u64.wrap (IntKind.u64.wrap (2 * (↑s.1 : Int)) + o))) ∧
 ∀ (e_1 f_1 g_1 h_3 : Int),
 IsN ((0 * W4 + nval e f g h) / IntKind.u64.wrap (IntKind.u64.wrap (IntKind.u64.wrap (IntKind.u64.wrap (2 * (↑s.1 : Int)) - 1) + o) * IntKind.u64.wrap (IntKind.u64.wrap (2 * (↑s.1 : Int)) + o))) e_1 f_1 g_1 h_3 →
 (U4 e_1 f_1 g_1 h_3 ∧ U4 s.2 s.3 s.4 s.5) ∧
 ∀ (e_2 f_2 g_2 h_5 : Int),
 IsN (mulI (nval e_1 f_1 g_1 h_3) (nval s.2 s.3 s.4 s.5)) e_2 f_2 g_2 h_5 →
 (U4 e_1 f_1 g_1 h_3 ∧ U4 e_2 f_2 g_2 h_5) ∧
 ∀ (e_3 f_3 g_3 h_7 : Int),
 IsN ((nval e_1 f_1 g_1 h_3 - nval e_2 f_2 g_2 h_5) % W4) e_3 f_3 g_3 h_7 →
 ∃ (s_1 : Ls), (o = o ∧ IntKind.u64.wrap ((↑s.1 : Int) - 1) = (↑s_1.1 : Int) ∧ a = a ∧ b = b ∧ c = c ∧ d = d ∧ Int.ofNat 0 = 0 ∧ Int.ofNat 0 = 0 ∧ Int.ofNat 0 = 0 ∧ Int.ofNat 0 = 0 ∧ e = e ∧ f = f ∧ g = g ∧ h = h ∧ e_3 = s_1.2 ∧ f_3 = s_1.3 ∧ g_3 = s_1.4 ∧ h_7 = s_1.5 ∧ True) ∧ LsR (mulI (nval a b c d) (nval a b c d)) o s_1.1 s_1.2 s_1.3 s_1.4 s_1.5 ∧ s_1.1 < s.1)
 (K (Value.agg #[Value.int IntKind.u64 s.2, Value.int IntKind.u64 s.3, Value.int IntKind.u64 s.4, Value.int IntKind.u64 s.5]))) := by kernel_rfl
theorem vc_trsine (n : Int) (K : Value → Prop) : callsX Tryz.prog (ΓTn) (noAnn) 62 [.int .i64 n] K = (
 bcase (n == 0) (K (Value.tuple #[Value.int IntKind.i64 0, Value.bool true]))
 (bcase (n == 1800000) (K (Value.tuple #[Value.int IntKind.i64 536870912, Value.bool true]))
 (bcase (n == 5400000) (K (Value.tuple #[Value.int IntKind.i64 1073741824, Value.bool true]))
 (bcase (decide (IntKind.i64.wrap (2 * n) ≤ 5400000))
 ((0 ≤ n ∧ n ≤ 2700000) ∧
 ∀ (e f g h : Int),
 IsN (radI n) e f g h →
 (U4 e f g h ∧ Bit 1) ∧
 ∀ (e_1 f_1 g_1 h_2 : Int),
 IsN (lessI (mulI (nval e f g h) (nval e f g h)) 1 34 0) e_1 f_1 g_1 h_2 →
 (U4 e f g h ∧ U4 e_1 f_1 g_1 h_2) ∧ ∀ (e_2 f_2 g_2 h_4 : Int), IsN (mulI (nval e f g h) (nval e_1 f_1 g_1 h_2)) e_2 f_2 g_2 h_4 → (U4 e f g h ∧ U4 e_2 f_2 g_2 h_4) ∧ ∀ (e_3 f_3 g_3 h_6 : Int), IsN ((nval e f g h - nval e_2 f_2 g_2 h_4) % W4) e_3 f_3 g_3 h_6 → K (Value.tuple #[Value.int IntKind.i64 (IntKind.i64.wrap (e_3.fdiv (2 ^ 34))), Value.bool false]))
 ((0 ≤ IntKind.i64.wrap (5400000 - n) ∧ IntKind.i64.wrap (5400000 - n) ≤ 2700000) ∧
 ∀ (e f g h : Int),
 IsN (radI (IntKind.i64.wrap (5400000 - n))) e f g h → (U4 e f g h ∧ Bit 0) ∧ ∀ (e_1 f_1 g_1 h_2 : Int), IsN (lessI (mulI (nval e f g h) (nval e f g h)) 0 34 0) e_1 f_1 g_1 h_2 → (U4 0 0 0 0 ∧ U4 e_1 f_1 g_1 h_2) ∧ ∀ (e f g h : Int), IsN ((nval 0 0 0 0 - nval e_1 f_1 g_1 h_2) % W4) e f g h → K (Value.tuple #[Value.int IntKind.i64 (IntKind.i64.wrap (e.fdiv (2 ^ 34))), Value.bool false])))))) := by kernel_rfl
end Go.Proofs.YtofnffcdbbiohaaGreatDoor
