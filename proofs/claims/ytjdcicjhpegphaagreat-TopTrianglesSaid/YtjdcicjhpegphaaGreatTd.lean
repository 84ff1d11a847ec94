/- TopTriangles: what the law calls. TopTriangles: what the law asks. TopTriangles: the law, out of its parts. TopTriangles: the law, with its examples. -/
import Derived.Test.YtjdcicjhpegphaaGreatTc
import Derived.Test.YtjdcicjhpegphaaGreatWc2
set_option linter.unusedSimpArgs false
set_option linter.unusedVariables false
namespace Go.Proofs.YtjdcicjhpegphaaGreat
open Go Go.Abs Go.RowKit Go.Sine
def sAwakeT : FSpec := fun | [] => some (True, .bool true) | _ => none
def WpV (a b : Int) : Prop := PtV a b ∧ -4800000 ≤ a ∧ a ≤ 4800000
instance (a b : Int) : Decidable (WpV a b) := by unfold WpV; infer_instance
def sWpt : FSpec := fun | [.agg ⟨[.int .i64 a, .int .i64 b]⟩] => some (True, .bool (decide (WpV a b))) | _ => none
def Pt2 (a b c d : Int) : Prop := PtV a b ∧ PtV c d
def sInvG (f g h i : Int → Int → Int → Int → Int) : FSpec := fun | [.agg ⟨[.int .i64 a, .int .i64 b]⟩, .agg ⟨[.int .i64 c, .int .i64 d]⟩] => some (Pt2 a b c d, pair (arc4 (f a b c d) (g a b c d) (h a b c d) (i a b c d)) (num 0)) | _ => none
def sR5V : FSpec := fun | [.agg ⟨[.int .i64 a, .int .i64 b]⟩] => some (True, .bool (decide (ArcV a b))) | _ => none
def AgJ (a b c d : Int) : Prop := (c - a) % 21600000 ≤ b - a ∨ (a - c) % 21600000 ≤ d - c
instance (a b c d : Int) : Decidable (AgJ a b c d) := by unfold AgJ; infer_instance
def sAgr (ag : Int → Int → Int → Int → Bool) : FSpec := fun | [.agg ⟨[.int .i64 a, .int .i64 b]⟩, .agg ⟨[.int .i64 c, .int .i64 d]⟩] => some (Q37s a b c d, pair (.bool (ag a b c d)) (num 0)) | _ => none
def sR5Ad : FSpec := fun | [.agg ⟨[.int .i64 a, .int .i64 b]⟩, .agg ⟨[.int .i64 c, .int .i64 d]⟩] => some (Q37s a b c d, wid (a + c) (b + d)) | _ => none
def sR5Sb : FSpec := fun | [.agg ⟨[.int .i64 a, .int .i64 b]⟩, .agg ⟨[.int .i64 c, .int .i64 d]⟩] => some (Q37s a b c d, wid (a - d) (b - c)) | _ => none
def sR5Ng : FSpec := fun | [.agg ⟨[.int .i64 a, .int .i64 b]⟩] => some (Q37 a b, wid (-b) (-a)) | _ => none
def MtJ (a b c d : Int) : Prop := ArcV a b ∧ ArcV c d ∧ a ≤ d ∧ c ≤ b
instance (a b c d : Int) : Decidable (MtJ a b c d) := by unfold MtJ; infer_instance
def sMts : FSpec := fun | [.agg ⟨[.int .i64 a, .int .i64 b]⟩, .agg ⟨[.int .i64 c, .int .i64 d]⟩] => some (True, .bool (decide (MtJ a b c d))) | _ => none
def sR5M : FSpec := fun | [.agg ⟨[.int .i64 a, .int .i64 b]⟩, .agg ⟨[.int .i64 c, .int .i64 d]⟩] => some (True, .bool (decide (a ≤ d ∧ c ≤ b))) | _ => none
def ΓMts : List (FuncId × CSpec) := [(16, .v sR5V), (57, .v sR5M)]
def ΓAgr : List (FuncId × CSpec) := [(26, .v sAnValid), (52, .v sAnWrap)]
def ΓWp : List (FuncId × CSpec) := [(29, .v sPtV)]
def ΓTri (f g h i : Int → Int → Int → Int → Int) (ag : Int → Int → Int → Int → Bool) : List (FuncId × CSpec) := [(5, .v sAwakeT), (14, .v sWpt), (15, .v (sInvG f g h i)), (16, .v sR5V), (17, .q qAg), (18, .v (sAgr ag)), (11, .v sR5Sb), (19, .v sR5Ng), (20, .v sR5Ad), (21, .q qEx), (22, .v sMts), (10, .v sOne1)]
def ATr : FuncId → List (Nat × LoopBy) := fun _ => [(0, .times 4), (2, .times 4)]
end Go.Proofs.YtjdcicjhpegphaaGreat
namespace Go.Proofs.YtjdcicjhpegphaaGreat
open Go Go.Abs Go.RowKit Go.Sine
theorem vc_waypoint (a b : Int) (K : Value → Prop) : callsX Tryz.prog (ΓWp) (noAnn) 14 [wid a b] K = (
 True ∧ bcase (decide (PtV a b)) (bcase (decide (a ≥ -4800000)) (K (Value.bool (decide (a ≤ 4800000)))) (K (Value.bool false))) (K (Value.bool false))) := by kernel_rfl
theorem vc_r5validT (a b : Int) (K : Value → Prop) : callsX Tryz.prog ([]) (noAnn) 16 [wid a b] K = (
 bcase (decide (a ≤ b)) (bcase (decide (a ≥ -1099511627776)) (K (Value.bool (decide (b ≤ 1099511627776)))) (K (Value.bool false))) (K (Value.bool false))) := by kernel_rfl
theorem vc_r5meetsT (a b c d : Int) (K : Value → Prop) : callsX Tryz.prog ([]) (noAnn) 57 [wid a b, wid c d] K = (
 bcase (decide (a ≤ d)) (K (Value.bool (decide (c ≤ b)))) (K (Value.bool false))) := by kernel_rfl
theorem vc_r5negT (a b : Int) (K : Value → Prop) : callsX Tryz.prog ([]) (noAnn) 19 [wid a b] K = (
 K (Value.agg #[Value.int IntKind.i64 (IntKind.i64.wrap (0 - b)), Value.int IntKind.i64 (IntKind.i64.wrap (0 - a))])) := by kernel_rfl
theorem vc_r5addT (a b c d : Int) (K : Value → Prop) : callsX Tryz.prog ([]) (noAnn) 20 [wid a b, wid c d] K = (
 K (Value.agg #[Value.int IntKind.i64 (IntKind.i64.wrap (a + c)), Value.int IntKind.i64 (IntKind.i64.wrap (b + d))])) := by kernel_rfl
theorem vc_r5subT (a b c d : Int) (K : Value → Prop) : callsX Tryz.prog ([]) (noAnn) 11 [wid a b, wid c d] K = (
 K (Value.agg #[Value.int IntKind.i64 (IntKind.i64.wrap (a - d)), Value.int IntKind.i64 (IntKind.i64.wrap (b - c))])) := by kernel_rfl
theorem vc_anagreeT (a b c d : Int) (K : Value → Prop) : callsX Tryz.prog (ΓAgr) (noAnn) 18 [wid a b, wid c d] K = (
 True ∧
 bcase (!decide (ArcV a b)) (K (Value.tuple #[Value.bool false, Value.int IntKind.i64 1]))
 (True ∧ bcase (!decide (ArcV c d)) (K (Value.tuple #[Value.bool false, Value.int IntKind.i64 1])) (True ∧ bcase (decide (wrI (IntKind.i64.wrap (c - a)) ≤ IntKind.i64.wrap (b - a))) (K (Value.tuple #[Value.bool true, Value.int IntKind.i64 0])) (True ∧ K (Value.tuple #[Value.bool (decide (wrI (IntKind.i64.wrap (a - c)) ≤ IntKind.i64.wrap (d - c))), Value.int IntKind.i64 0]))))) := by kernel_rfl
theorem vc_waymeets (a b c d : Int) (K : Value → Prop) : callsX Tryz.prog (ΓMts) (noAnn) 22 [wid a b, wid c d] K = (
 True ∧ bcase (decide (ArcV a b)) (True ∧ bcase (decide (ArcV c d)) (True ∧ K (Value.bool (decide (a ≤ d ∧ c ≤ b)))) (K (Value.bool false))) (K (Value.bool false))) := by kernel_rfl
theorem vc_toptriangles (p l q m r n : Int) (f g h i : Int → Int → Int → Int → Int) (ag : Int → Int → Int → Int → Bool) (K : Value → Prop) : callsX Tryz.prog (ΓTri f g h i ag) (ATr) 4 [wid p l, wid q m, wid r n] K = (
 True ∧
 True ∧
 bcase (!decide (WpV p l)) (K (Value.bool true))
 (True ∧
 bcase (!decide (WpV q m)) (K (Value.bool true))
 (True ∧
 bcase (!decide (WpV r n)) (K (Value.bool true))
 (Pt2 q m r n ∧
 True ∧
 bcase (!decide (ArcV (h q m r n) (i q m r n))) (K (Value.bool false))
 (bcase (decide (h q m r n < 0)) (K (Value.bool false))
 (bcase (decide (i q m r n > 10800000)) (K (Value.bool false))
 (Pt2 r n p l ∧
 True ∧
 bcase (!decide (ArcV (h r n p l) (i r n p l))) (K (Value.bool false))
 (bcase (decide (h r n p l < 0)) (K (Value.bool false))
 (bcase (decide (i r n p l > 10800000)) (K (Value.bool false))
 (Pt2 p l q m ∧
 True ∧
 bcase (!decide (ArcV (h p l q m) (i p l q m))) (K (Value.bool false))
 (bcase (decide (h p l q m < 0)) (K (Value.bool false))
 (bcase (decide (i p l q m > 10800000)) (K (Value.bool false))
 (bcase (decide (IntKind.i64.wrap (i r n p l + i p l q m) < h q m r n)) (K (Value.bool false))
 (AgPre (h q m r n) (i q m r n) (h r n p l) (i r n p l) (h p l q m) (i p l q m) ∧
 ∀ (l_1 h_1 x : Int),
 AgIs (h q m r n) (i q m r n) (h r n p l) (i r n p l) (h p l q m) (i p l q m) l_1 h_1 x →
 bcase (x != 0) (bcase (x == 21) (K (Value.bool true)) (K (Value.bool (x == 24))))
 (Pt2 p l q m ∧
 Pt2 p l r n ∧
 True ∧
 bcase (!decide (ArcV (f p l q m) (g p l q m))) (K (Value.bool false))
 (True ∧
 bcase (!decide (ArcV (f p l r n) (g p l r n))) (K (Value.bool false))
 (True ∧
 bcase (!decide (ArcV l_1 h_1)) (K (Value.bool false))
 (Q37s (f p l q m) (g p l q m) (f p l r n) (g p l r n) ∧
 Q37s (f p l q m - g p l r n) (g p l q m - f p l r n) l_1 h_1 ∧
 Q37 l_1 h_1 ∧
 Q37s (f p l q m - g p l r n) (g p l q m - f p l r n) (-h_1) (-l_1) ∧
 bcase (!ag (f p l q m - g p l r n) (g p l q m - f p l r n) l_1 h_1)
 (bcase (!ag (f p l q m - g p l r n) (g p l q m - f p l r n) (-h_1) (-l_1)) (K (Value.bool false))
 (Q37s 0 0 l_1 h_1 ∧
 bcase (decide (IntKind.i64.wrap (i p l q m + i q m r n) < h r n p l)) (K (Value.bool false))
 (AgPre (h r n p l) (i r n p l) (h p l q m) (i p l q m) (h q m r n) (i q m r n) ∧
 ∀ (l_2 h_3 x : Int),
 AgIs (h r n p l) (i r n p l) (h p l q m) (i p l q m) (h q m r n) (i q m r n) l_2 h_3 x →
 bcase (x != 0) (bcase (x == 21) (K (Value.bool true)) (K (Value.bool (x == 24))))
 (Pt2 q m r n ∧
 Pt2 q m p l ∧
 True ∧
 bcase (!decide (ArcV (f q m r n) (g q m r n))) (K (Value.bool false))
 (True ∧
 bcase (!decide (ArcV (f q m p l) (g q m p l))) (K (Value.bool false))
 (True ∧
 bcase (!decide (ArcV l_2 h_3)) (K (Value.bool false))
 (Q37s (f q m r n) (g q m r n) (f q m p l) (g q m p l) ∧
 Q37s (f q m r n - g q m p l) (g q m r n - f q m p l) l_2 h_3 ∧
 Q37 l_2 h_3 ∧
 Q37s (f q m r n - g q m p l) (g q m r n - f q m p l) (-h_3) (-l_2) ∧
 bcase (!ag (f q m r n - g q m p l) (g q m r n - f q m p l) l_2 h_3)
 (bcase (!ag (f q m r n - g q m p l) (g q m r n - f q m p l) (-h_3) (-l_2)) (K (Value.bool false))
 (Q37s (0 + l_1) (0 + h_1) l_2 h_3 ∧
 bcase (decide (IntKind.i64.wrap (i q m r n + i r n p l) < h p l q m)) (K (Value.bool false))
 (AgPre (h p l q m) (i p l q m) (h q m r n) (i q m r n) (h r n p l) (i r n p l) ∧
 ∀ (l_3 h_5 x : Int),
 AgIs (h p l q m) (i p l q m) (h q m r n) (i q m r n) (h r n p l) (i r n p l) l_3 h_5 x →
 bcase (x != 0) (bcase (x == 21) (K (Value.bool true)) (K (Value.bool (x == 24))))
 (Pt2 r n p l ∧
 Pt2 r n q m ∧
 True ∧
 bcase (!decide (ArcV (f r n p l) (g r n p l))) (K (Value.bool false))
 (True ∧
 bcase (!decide (ArcV (f r n q m) (g r n q m))) (K (Value.bool false))
 (True ∧
 bcase (!decide (ArcV l_3 h_5)) (K (Value.bool false))
 (Q37s (f r n p l) (g r n p l) (f r n q m) (g r n q m) ∧
 Q37s (f r n p l - g r n q m) (g r n p l - f r n q m) l_3 h_5 ∧
 Q37 l_3 h_5 ∧
 Q37s (f r n p l - g r n q m) (g r n p l - f r n q m) (-h_5) (-l_3) ∧
 bcase (!ag (f r n p l - g r n q m) (g r n p l - f r n q m) l_3 h_5)
 (bcase (!ag (f r n p l - g r n q m) (g r n p l - f r n q m) (-h_5) (-l_3)) (K (Value.bool false))
 (Q37s (0 + l_1 + l_2) (0 + h_1 + h_3) l_3 h_5 ∧
 ExPre (h q m r n) (i q m r n) (h r n p l) (i r n p l) (h p l q m) (i p l q m) ∧
 ∀ (l_4 h_7 x : Int), ExIs (h q m r n) (i q m r n) (h r n p l) (i r n p l) (h p l q m) (i p l q m) l_4 h_7 x → bcase (x != 0) (K (Value.bool (x == 24))) (True ∧ Q37s (0 + l_1 + l_2 + l_3) (0 + h_1 + h_3 + h_5) 10800000 10800000 ∧ True ∧ K (Value.bool (decide (MtJ l_4 h_7 (0 + l_1 + l_2 + l_3 - 10800000) (0 + h_1 + h_3 + h_5 - 10800000)))))))
 (Q37s (0 + l_1 + l_2) (0 + h_1 + h_3) l_3 h_5 ∧
 ExPre (h q m r n) (i q m r n) (h r n p l) (i r n p l) (h p l q m) (i p l q m) ∧
 ∀ (l_4 h_7 x : Int), ExIs (h q m r n) (i q m r n) (h r n p l) (i r n p l) (h p l q m) (i p l q m) l_4 h_7 x → bcase (x != 0) (K (Value.bool (x == 24))) (True ∧ Q37s (0 + l_1 + l_2 + l_3) (0 + h_1 + h_3 + h_5) 10800000 10800000 ∧ True ∧ K (Value.bool (decide (MtJ l_4 h_7 (0 + l_1 + l_2 + l_3 - 10800000) (0 + h_1 + h_3 + h_5 - 10800000)))))))))))))
 (Q37s (0 + l_1) (0 + h_1) l_2 h_3 ∧
 bcase (decide (IntKind.i64.wrap (i q m r n + i r n p l) < h p l q m)) (K (Value.bool false))
 (AgPre (h p l q m) (i p l q m) (h q m r n) (i q m r n) (h r n p l) (i r n p l) ∧
 ∀ (l_3 h_5 x : Int),
 AgIs (h p l q m) (i p l q m) (h q m r n) (i q m r n) (h r n p l) (i r n p l) l_3 h_5 x →
 bcase (x != 0) (bcase (x == 21) (K (Value.bool true)) (K (Value.bool (x == 24))))
 (Pt2 r n p l ∧
 Pt2 r n q m ∧
 True ∧
 bcase (!decide (ArcV (f r n p l) (g r n p l))) (K (Value.bool false))
 (True ∧
 bcase (!decide (ArcV (f r n q m) (g r n q m))) (K (Value.bool false))
 (True ∧
 bcase (!decide (ArcV l_3 h_5)) (K (Value.bool false))
 (Q37s (f r n p l) (g r n p l) (f r n q m) (g r n q m) ∧
 Q37s (f r n p l - g r n q m) (g r n p l - f r n q m) l_3 h_5 ∧
 Q37 l_3 h_5 ∧
 Q37s (f r n p l - g r n q m) (g r n p l - f r n q m) (-h_5) (-l_3) ∧
 bcase (!ag (f r n p l - g r n q m) (g r n p l - f r n q m) l_3 h_5)
 (bcase (!ag (f r n p l - g r n q m) (g r n p l - f r n q m) (-h_5) (-l_3)) (K (Value.bool false))
 (Q37s (0 + l_1 + l_2) (0 + h_1 + h_3) l_3 h_5 ∧
 ExPre (h q m r n) (i q m r n) (h r n p l) (i r n p l) (h p l q m) (i p l q m) ∧
 ∀ (l_4 h_7 x : Int), ExIs (h q m r n) (i q m r n) (h r n p l) (i r n p l) (h p l q m) (i p l q m) l_4 h_7 x → bcase (x != 0) (K (Value.bool (x == 24))) (True ∧ Q37s (0 + l_1 + l_2 + l_3) (0 + h_1 + h_3 + h_5) 10800000 10800000 ∧ True ∧ K (Value.bool (decide (MtJ l_4 h_7 (0 + l_1 + l_2 + l_3 - 10800000) (0 + h_1 + h_3 + h_5 - 10800000)))))))
 (Q37s (0 + l_1 + l_2) (0 + h_1 + h_3) l_3 h_5 ∧
 ExPre (h q m r n) (i q m r n) (h r n p l) (i r n p l) (h p l q m) (i p l q m) ∧
 ∀ (l_4 h_7 x : Int), ExIs (h q m r n) (i q m r n) (h r n p l) (i r n p l) (h p l q m) (i p l q m) l_4 h_7 x → bcase (x != 0) (K (Value.bool (x == 24))) (True ∧ Q37s (0 + l_1 + l_2 + l_3) (0 + h_1 + h_3 + h_5) 10800000 10800000 ∧ True ∧ K (Value.bool (decide (MtJ l_4 h_7 (0 + l_1 + l_2 + l_3 - 10800000) (0 + h_1 + h_3 + h_5 - 10800000)))))))))))))))))))
 (Q37s 0 0 l_1 h_1 ∧
 bcase (decide (IntKind.i64.wrap (i p l q m + i q m r n) < h r n p l)) (K (Value.bool false))
 (AgPre (h r n p l) (i r n p l) (h p l q m) (i p l q m) (h q m r n) (i q m r n) ∧
 ∀ (l_2 h_3 x : Int),
 AgIs (h r n p l) (i r n p l) (h p l q m) (i p l q m) (h q m r n) (i q m r n) l_2 h_3 x →
 bcase (x != 0) (bcase (x == 21) (K (Value.bool true)) (K (Value.bool (x == 24))))
 (Pt2 q m r n ∧
 Pt2 q m p l ∧
 True ∧
 bcase (!decide (ArcV (f q m r n) (g q m r n))) (K (Value.bool false))
 (True ∧
 bcase (!decide (ArcV (f q m p l) (g q m p l))) (K (Value.bool false))
 (True ∧
 bcase (!decide (ArcV l_2 h_3)) (K (Value.bool false))
 (Q37s (f q m r n) (g q m r n) (f q m p l) (g q m p l) ∧
 Q37s (f q m r n - g q m p l) (g q m r n - f q m p l) l_2 h_3 ∧
 Q37 l_2 h_3 ∧
 Q37s (f q m r n - g q m p l) (g q m r n - f q m p l) (-h_3) (-l_2) ∧
 bcase (!ag (f q m r n - g q m p l) (g q m r n - f q m p l) l_2 h_3)
 (bcase (!ag (f q m r n - g q m p l) (g q m r n - f q m p l) (-h_3) (-l_2)) (K (Value.bool false))
 (Q37s (0 + l_1) (0 + h_1) l_2 h_3 ∧
 bcase (decide (IntKind.i64.wrap (i q m r n + i r n p l) < h p l q m)) (K (Value.bool false))
 (AgPre (h p l q m) (i p l q m) (h q m r n) (i q m r n) (h r n p l) (i r n p l) ∧
 ∀ (l_3 h_5 x : Int),
 AgIs (h p l q m) (i p l q m) (h q m r n) (i q m r n) (h r n p l) (i r n p l) l_3 h_5 x →
 bcase (x != 0) (bcase (x == 21) (K (Value.bool true)) (K (Value.bool (x == 24))))
 (Pt2 r n p l ∧
 Pt2 r n q m ∧
 True ∧
 bcase (!decide (ArcV (f r n p l) (g r n p l))) (K (Value.bool false))
 (True ∧
 bcase (!decide (ArcV (f r n q m) (g r n q m))) (K (Value.bool false))
 (True ∧
 bcase (!decide (ArcV l_3 h_5)) (K (Value.bool false))
 (Q37s (f r n p l) (g r n p l) (f r n q m) (g r n q m) ∧
 Q37s (f r n p l - g r n q m) (g r n p l - f r n q m) l_3 h_5 ∧
 Q37 l_3 h_5 ∧
 Q37s (f r n p l - g r n q m) (g r n p l - f r n q m) (-h_5) (-l_3) ∧
 bcase (!ag (f r n p l - g r n q m) (g r n p l - f r n q m) l_3 h_5)
 (bcase (!ag (f r n p l - g r n q m) (g r n p l - f r n q m) (-h_5) (-l_3)) (K (Value.bool false))
 (Q37s (0 + l_1 + l_2) (0 + h_1 + h_3) l_3 h_5 ∧
 ExPre (h q m r n) (i q m r n) (h r n p l) (i r n p l) (h p l q m) (i p l q m) ∧
 ∀ (l_4 h_7 x : Int), ExIs (h q m r n) (i q m r n) (h r n p l) (i r n p l) (h p l q m) (i p l q m) l_4 h_7 x → bcase (x != 0) (K (Value.bool (x == 24))) (True ∧ Q37s (0 + l_1 + l_2 + l_3) (0 + h_1 + h_3 + h_5) 10800000 10800000 ∧ True ∧ K (Value.bool (decide (MtJ l_4 h_7 (0 + l_1 + l_2 + l_3 - 10800000) (0 + h_1 + h_3 + h_5 - 10800000)))))))
 (Q37s (0 + l_1 + l_2) (0 + h_1 + h_3) l_3 h_5 ∧
 ExPre (h q m r n) (i q m r n) (h r n p l) (i r n p l) (h p l q m) (i p l q m) ∧
 ∀ (l_4 h_7 x : Int), ExIs (h q m r n) (i q m r n) (h r n p l) (i r n p l) (h p l q m) (i p l q m) l_4 h_7 x → bcase (x != 0) (K (Value.bool (x == 24))) (True ∧ Q37s (0 + l_1 + l_2 + l_3) (0 + h_1 + h_3 + h_5) 10800000 10800000 ∧ True ∧ K (Value.bool (decide (MtJ l_4 h_7 (0 + l_1 + l_2 + l_3 - 10800000) (0 + h_1 + h_3 + h_5 - 10800000)))))))))))))
 (Q37s (0 + l_1) (0 + h_1) l_2 h_3 ∧
 bcase (decide (IntKind.i64.wrap (i q m r n + i r n p l) < h p l q m)) (K (Value.bool false))
 (AgPre (h p l q m) (i p l q m) (h q m r n) (i q m r n) (h r n p l) (i r n p l) ∧
 ∀ (l_3 h_5 x : Int),
 AgIs (h p l q m) (i p l q m) (h q m r n) (i q m r n) (h r n p l) (i r n p l) l_3 h_5 x →
 bcase (x != 0) (bcase (x == 21) (K (Value.bool true)) (K (Value.bool (x == 24))))
 (Pt2 r n p l ∧
 Pt2 r n q m ∧
 True ∧
 bcase (!decide (ArcV (f r n p l) (g r n p l))) (K (Value.bool false))
 (True ∧
 bcase (!decide (ArcV (f r n q m) (g r n q m))) (K (Value.bool false))
 (True ∧
 bcase (!decide (ArcV l_3 h_5)) (K (Value.bool false))
 (Q37s (f r n p l) (g r n p l) (f r n q m) (g r n q m) ∧
 Q37s (f r n p l - g r n q m) (g r n p l - f r n q m) l_3 h_5 ∧
 Q37 l_3 h_5 ∧
 Q37s (f r n p l - g r n q m) (g r n p l - f r n q m) (-h_5) (-l_3) ∧
 bcase (!ag (f r n p l - g r n q m) (g r n p l - f r n q m) l_3 h_5)
 (bcase (!ag (f r n p l - g r n q m) (g r n p l - f r n q m) (-h_5) (-l_3)) (K (Value.bool false))
 (Q37s (0 + l_1 + l_2) (0 + h_1 + h_3) l_3 h_5 ∧
 ExPre (h q m r n) (i q m r n) (h r n p l) (i r n p l) (h p l q m) (i p l q m) ∧
 ∀ (l_4 h_7 x : Int), ExIs (h q m r n) (i q m r n) (h r n p l) (i r n p l) (h p l q m) (i p l q m) l_4 h_7 x → bcase (x != 0) (K (Value.bool (x == 24))) (True ∧ Q37s (0 + l_1 + l_2 + l_3) (0 + h_1 + h_3 + h_5) 10800000 10800000 ∧ True ∧ K (Value.bool (decide (MtJ l_4 h_7 (0 + l_1 + l_2 + l_3 - 10800000) (0 + h_1 + h_3 + h_5 - 10800000)))))))
 (Q37s (0 + l_1 + l_2) (0 + h_1 + h_3) l_3 h_5 ∧
 ExPre (h q m r n) (i q m r n) (h r n p l) (i r n p l) (h p l q m) (i p l q m) ∧
 ∀ (l_4 h_7 x : Int), ExIs (h q m r n) (i q m r n) (h r n p l) (i r n p l) (h p l q m) (i p l q m) l_4 h_7 x → bcase (x != 0) (K (Value.bool (x == 24))) (True ∧ Q37s (0 + l_1 + l_2 + l_3) (0 + h_1 + h_3 + h_5) 10800000 10800000 ∧ True ∧ K (Value.bool (decide (MtJ l_4 h_7 (0 + l_1 + l_2 + l_3 - 10800000) (0 + h_1 + h_3 + h_5 - 10800000)))))))))))))))))))))))))))))))))))) := by kernel_rfl
end Go.Proofs.YtjdcicjhpegphaaGreat
namespace Go.Proofs.YtjdcicjhpegphaaGreat
open Go Go.Abs Go.RowKit Go.Sine
attribute [local irreducible] rtI rtU encL encH cL cH muL muH bL bH
def agB (a b c d : Int) : Bool := decide (AgJ a b c d)
section
variable {Φ : World → Prop} (hst : ∀ w w', Φ w → Below w.heap.size w w' → Φ w')
include hst
theorem c_waypoint (a b : Int) : Ans Tryz.prog Φ 14 [wid a b] (.bool (decide (WpV a b))) := by
  refine fn_by hst (Sound.cons (by kernel_rfl) (fun args p v h hp => by unfold sPtV at h; split at h <;> cases h; exact c_r8validpoint hst _ _) Sound.nil) (vc_waypoint a b _) ?_
  unfold WpV
  refine ⟨trivial, bcase_iff.mpr ⟨fun p => bcase_iff.mpr ⟨fun q => ?_, fun q => ?_⟩, fun p => ?_⟩⟩
  · have p := of_decide_eq_true p
    have q := of_decide_eq_true q
    exact congrArg Value.bool (decide_eq_decide.mpr ⟨fun h => ⟨p, q, h⟩, fun h => h.2.2⟩)
  · have q := of_decide_eq_false q
    exact congrArg Value.bool (decide_eq_false (fun h => q h.2.1)).symm
  · have p := of_decide_eq_false p
    exact congrArg Value.bool (decide_eq_false (fun h => p h.1)).symm
theorem c_r5validT (a b : Int) : Ans Tryz.prog Φ 16 [wid a b] (.bool (decide (ArcV a b))) := by
  refine fn_by hst Sound.nil (vc_r5validT a b _) ?_
  unfold ArcV
  refine bcase_iff.mpr ⟨fun p => bcase_iff.mpr ⟨fun q => ?_, fun q => ?_⟩, fun p => ?_⟩
  · have p := of_decide_eq_true p
    have q := of_decide_eq_true q
    exact congrArg Value.bool (decide_eq_decide.mpr ⟨fun h => ⟨q, p, h⟩, fun h => h.2.2⟩)
  · have q := of_decide_eq_false q
    exact congrArg Value.bool (decide_eq_false (fun h => q h.1)).symm
  · have p := of_decide_eq_false p
    exact congrArg Value.bool (decide_eq_false (fun h => p h.2.1)).symm
theorem c_r5meetsT (a b c d : Int) : Ans Tryz.prog Φ 57 [wid a b, wid c d] (.bool (decide (a ≤ d ∧ c ≤ b))) := by
  refine fn_by hst Sound.nil (vc_r5meetsT a b c d _) ?_
  refine bcase_iff.mpr ⟨fun p => ?_, fun p => ?_⟩
  · have p := of_decide_eq_true p
    exact congrArg Value.bool (decide_eq_decide.mpr ⟨fun h => ⟨p, h⟩, fun h => h.2⟩)
  · have p := of_decide_eq_false p
    exact congrArg Value.bool (decide_eq_false (fun h => p h.1)).symm
theorem c_waymeets (a b c d : Int) : Ans Tryz.prog Φ 22 [wid a b, wid c d] (.bool (decide (MtJ a b c d))) := by
  refine fn_by hst (Γ := ΓMts) (Sound.cons (by kernel_rfl) (fun args p v h hp => by unfold sR5V at h; split at h <;> cases h; exact c_r5validT hst _ _) (Sound.cons (by kernel_rfl) (fun args p v h hp => by unfold sR5M at h; split at h <;> cases h; exact c_r5meetsT hst _ _ _ _) Sound.nil)) (vc_waymeets a b c d _) ?_
  unfold MtJ
  refine ⟨trivial, bcase_iff.mpr ⟨fun p => ⟨trivial, bcase_iff.mpr ⟨fun q => ⟨trivial, ?_⟩, fun q => ?_⟩⟩, fun p => ?_⟩⟩
  · have p := of_decide_eq_true p
    have q := of_decide_eq_true q
    exact congrArg Value.bool (decide_eq_decide.mpr ⟨fun h => ⟨p, q, h⟩, fun h => h.2.2⟩)
  · have q := of_decide_eq_false q
    exact congrArg Value.bool (decide_eq_false (fun h => q h.2.1)).symm
  · have p := of_decide_eq_false p
    exact congrArg Value.bool (decide_eq_false (fun h => p h.1)).symm
theorem c_agreeT {a b c d : Int} (h : Q37s a b c d) : Ans Tryz.prog Φ 18 [wid a b, wid c d] (pair (.bool (agB a b c d)) (num 0)) := by
  obtain ⟨h1, h2⟩ := h
  have v1 := h1.arc
  have v2 := h2.arc
  unfold Q37 at h1 h2
  refine fn_by hst (Γ := ΓAgr) (Sound.cons (by kernel_rfl) (fun args p v h hp => by unfold sAnValid at h; split at h <;> cases h; exact c_anvalid hst _ _) (Sound.cons (by kernel_rfl) (fun args p v h hp => by unfold sAnWrap at h; split at h <;> cases h; exact c_anwrap hst _) Sound.nil)) (vc_anagreeT a b c d _) ?_
  have w1 : IntKind.i64.wrap (c - a) = c - a := wrap_in (by omega)
  have w2 : IntKind.i64.wrap (b - a) = b - a := wrap_in (by omega)
  have w3 : IntKind.i64.wrap (a - c) = a - c := wrap_in (by omega)
  have w4 : IntKind.i64.wrap (d - c) = d - c := wrap_in (by omega)
  rw [decide_eq_true v1, decide_eq_true v2, w1, w2, w3, w4]
  unfold agB AgJ
  refine ⟨trivial, trivial, trivial, bcase_iff.mpr ⟨fun p => ?_, fun p => ⟨trivial, ?_⟩⟩⟩
  · have p := of_decide_eq_true p
    have e : decide ((c - a) % 21600000 ≤ b - a ∨ (a - c) % 21600000 ≤ d - c) = true := decide_eq_true (.inl p)
    rw [e]
  · have p := of_decide_eq_false p
    have e : decide (wrI (a - c) ≤ d - c) = decide ((c - a) % 21600000 ≤ b - a ∨ (a - c) % 21600000 ≤ d - c) := decide_eq_decide.mpr ⟨fun h => .inr h, fun h => h.elim (fun k => absurd k p) id⟩
    rw [e]
theorem c_r5addT {a b c d : Int} (h : Q37s a b c d) : Ans Tryz.prog Φ 20 [wid a b, wid c d] (wid (a + c) (b + d)) := by
  obtain ⟨h1, h2⟩ := h
  unfold Q37 at h1 h2
  refine fn_by hst Sound.nil (vc_r5addT a b c d _) ?_
  rw [wrap_in (n := a + c) (by omega), wrap_in (n := b + d) (by omega)]
theorem c_r5subT {a b c d : Int} (h : Q37s a b c d) : Ans Tryz.prog Φ 11 [wid a b, wid c d] (wid (a - d) (b - c)) := by
  obtain ⟨h1, h2⟩ := h
  unfold Q37 at h1 h2
  refine fn_by hst Sound.nil (vc_r5subT a b c d _) ?_
  rw [wrap_in (n := a - d) (by omega), wrap_in (n := b - c) (by omega)]
theorem c_r5negT {a b : Int} (h : Q37 a b) : Ans Tryz.prog Φ 19 [wid a b] (wid (-b) (-a)) := by
  unfold Q37 at h
  refine fn_by hst Sound.nil (vc_r5negT a b _) ?_
  have e1 : IntKind.i64.wrap (0 - b) = -b := by rw [wrap_in (by omega)]; omega
  have e2 : IntKind.i64.wrap (0 - a) = -a := by rw [wrap_in (by omega)]; omega
  rw [e1, e2]
theorem s_Tri (hw : Ans Tryz.prog Φ 5 [] (.bool true)) : Sound Tryz.prog Φ (ΓTri crL crH dsL dsH agB) :=
  Sound.cons (by kernel_rfl) (fun args p v h hp => by unfold sAwakeT at h; split at h <;> cases h; exact hw)
  (Sound.cons (by kernel_rfl) (fun args p v h hp => by unfold sWpt at h; split at h <;> cases h; exact c_waypoint hst _ _)
  (Sound.cons (by kernel_rfl) (fun args p v h hp => by unfold sInvG at h; split at h <;> cases h; exact c_invG hst hp.1 hp.2)
  (Sound.cons (by kernel_rfl) (fun args p v h hp => by unfold sR5V at h; split at h <;> cases h; exact c_r5validT hst _ _)
  (Sound.qcons (by kernel_rfl) (h_angle hst)
  (Sound.cons (by kernel_rfl) (fun args p v h hp => by unfold sAgr at h; split at h <;> cases h; exact c_agreeT hst hp)
  (Sound.cons (by kernel_rfl) (fun args p v h hp => by unfold sR5Sb at h; split at h <;> cases h; exact c_r5subT hst hp)
  (Sound.cons (by kernel_rfl) (fun args p v h hp => by unfold sR5Ng at h; split at h <;> cases h; exact c_r5negT hst hp)
  (Sound.cons (by kernel_rfl) (fun args p v h hp => by unfold sR5Ad at h; split at h <;> cases h; exact c_r5addT hst hp)
  (Sound.qcons (by kernel_rfl) (h_excess hst)
  (Sound.cons (by kernel_rfl) (fun args p v h hp => by unfold sMts at h; split at h <;> cases h; exact c_waymeets hst _ _ _ _)
  (Sound.cons (by kernel_rfl) (fun args p v h hp => by unfold sOne1 at h; split at h <;> cases h; exact c_wayat hst _) Sound.nil)))))))))))
end
def CrsV (x x' : Int) : Prop := 0 ≤ x ∧ x ≤ x' ∧ x' ≤ 43200000
theorem bc_no {b : Bool} {A B : Prop} (h : b = false) (k : B) : bcase b A B := bcase_iff.mpr ⟨fun q => (by rw [h] at q; cases q), fun _ => k⟩
theorem bc_ways {b c : Bool} {F R : Prop} (h : b = true ∨ c = true) (k : R) : bcase (!b) (bcase (!c) F R) R := bcase_iff.mpr ⟨fun q => bc_no (by
  rcases h with h | h
  · rw [h] at q
    cases q
  · rw [h]
    rfl) k, fun _ => k⟩
theorem not_arc {a b : Int} (h : ArcV a b) : (!decide (ArcV a b)) = false := by rw [decide_eq_true h]; rfl
theorem corner_step {a a' b b' c c' x x' y y' : Int} {P1 P2 F : Prop} {R : Int → Int → Prop} (cor : CornerOk (a, a') (b, b') (c, c') (x, x') (y, y')) (ha : SideV a a') (hb : SideV b b') (hc : SideV c c') (hx : CrsV x x') (hy : CrsV y y') (p1 : P1) (p2 : P2)
    (hR : 0 < (agLow (b, b') (c, c')).1 → ∀ l h, l = (agP (a, a') (b, b') (c, c')).1 → h = (agP (a, a') (b, b') (c, c')).2 → R l h) :
    bcase (decide (IntKind.i64.wrap (b' + c') < a)) F (AgPre a a' b b' c c' ∧ ∀ (l h e : Int), AgIs a a' b b' c c' l h e → bcase (e != 0) (bcase (e == 21) (Value.bool true = Value.bool true) (Value.bool (e == 24) = Value.bool true))
      (P1 ∧ P2 ∧ True ∧ bcase (!decide (ArcV x x')) F (True ∧ bcase (!decide (ArcV y y')) F (True ∧ bcase (!decide (ArcV l h)) F (Q37s x x' y y' ∧ Q37s (x - y') (x' - y) l h ∧ Q37 l h ∧ Q37s (x - y') (x' - y) (-h) (-l) ∧ bcase (!agB (x - y') (x' - y) l h) (bcase (!agB (x - y') (x' - y) (-h) (-l)) F (R l h)) (R l h)))))) := by
  obtain ⟨side, low, ang⟩ := cor
  have ba := ha.2
  have bb := hb.2
  have bc := hc.2
  have va := ha.1
  have vb := hb.1
  have vc := hc.1
  unfold ArcV at va vb vc
  unfold CrsV at hx hy
  have ws : IntKind.i64.wrap (b' + c') = b' + c' := wrap_in (by omega)
  have side : a ≤ b' + c' := side
  refine bc_no (by rw [ws]; exact decide_eq_false (by omega)) ⟨⟨ha, hb, hc, low, fun hl => (ang hl).1⟩, ?_⟩
  rintro l h e ⟨k | k | k⟩
  · rw [k.1]
    exact rfl
  · rw [k.1]
    exact rfl
  · obtain ⟨e0, hl, el, eh⟩ := k
    rw [e0]
    obtain ⟨_, le, agr⟩ := ang hl
    have r := ag_range (a, a') (b, b') (c, c')
    rw [← el, ← eh] at r le
    have q1 : Q37 x x' := by unfold Q37; omega
    have q2 : Q37 y y' := by unfold Q37; omega
    have q3 : Q37 (x - y') (x' - y) := by unfold Q37; omega
    have q4 : Q37 l h := by unfold Q37; omega
    have q5 : Q37 (-h) (-l) := by unfold Q37; omega
    refine ⟨p1, p2, trivial, bc_no (not_arc q1.arc) ⟨trivial, bc_no (not_arc q2.arc) ⟨trivial, bc_no (not_arc q4.arc) ⟨⟨q1, q2⟩, ⟨q3, q4⟩, q4, ⟨q3, q5⟩, bc_ways ?_ (hR hl l h el eh)⟩⟩⟩⟩
    rw [el, eh]
    rcases agr with g | g
    · have g : AgJ (x - y') (x' - y) (agP (a, a') (b, b') (c, c')).1 (agP (a, a') (b, b') (c, c')).2 := g
      exact .inl (decide_eq_true g)
    · have g : AgJ (x - y') (x' - y) (-(agP (a, a') (b, b') (c, c')).2) (-(agP (a, a') (b, b') (c, c')).1) := g
      exact .inr (decide_eq_true g)
theorem ds_side (p l q m : Int) : SideV (dsL p l q m) (dsH p l q m) := by
  have r := ds_range p l q m
  have e1 : dsL p l q m = (dsP p l q m).1 := rfl
  have e2 : dsH p l q m = (dsP p l q m).2 := rfl
  rw [← e1, ← e2] at r
  refine ⟨?_, r.1, r.2.2⟩
  unfold ArcV
  omega
theorem cr_crs (p l q m : Int) : CrsV (crL p l q m) (crH p l q m) := by
  have r := cr_range p l q m
  exact ⟨r.1, r.2.2.1, r.2.2.2⟩
theorem tri_ok (p l q m r n : Int) : OkP (exS (dsP q m r n) (dsP r n p l) (dsP p l q m)) ∧ OkP (exC (dsP q m r n) (dsP r n p l) (dsP p l q m)) := by
  obtain ⟨α, _, _, _, ha⟩ := ds_real q m r n
  obtain ⟨β, _, _, _, hb⟩ := ds_real r n p l
  obtain ⟨γ, _, _, _, hc⟩ := ds_real p l q m
  exact (ex_ok ha hb hc).1
theorem ex_range (a b c : Int × Int) : 0 ≤ (exZ a b c).1 ∧ (exZ a b c).1 < 21600000 ∧ (exZ a b c).1 ≤ (exZ a b c).2 ∧ (exZ a b c).2 ≤ (exZ a b c).1 + 21600000 := by
  have zr := b_range (sqP (exS a b c)).1 (sqP (exS a b c)).2 (sqP (exC a b c)).1 (sqP (exC a b c)).2
  exact ⟨zr.1.1, zr.1.2, zr.2.1, zr.2.2⟩
section
variable {Φ : World → Prop} (hst : ∀ w w', Φ w → Below w.heap.size w w' → Φ w')
include hst
theorem law_triangles (hw : Ans Tryz.prog Φ 5 [] (.bool true)) (p l q m r n : Int) : Ans Tryz.prog Φ 4 [wid p l, wid q m, wid r n] (.bool true) := by
  refine fn_by hst (s_Tri hst hw) (vc_toptriangles p l q m r n crL crH dsL dsH agB _) ?_
  have S0 := ds_side q m r n
  have S1 := ds_side r n p l
  have S2 := ds_side p l q m
  obtain ⟨k0, k1, k2, kx⟩ := tri_law p l q m r n
  have okx := tri_ok p l q m r n
  refine ⟨trivial, trivial, bcase_iff.mpr ⟨fun _ => rfl, fun w1 => ⟨trivial, bcase_iff.mpr ⟨fun _ => rfl, fun w2 => ⟨trivial, bcase_iff.mpr ⟨fun _ => rfl, fun w3 => ?_⟩⟩⟩⟩⟩⟩
  have P : PtV p l := (show WpV p l by simpa using w1).1
  have Q : PtV q m := (show WpV q m by simpa using w2).1
  have R : PtV r n := (show WpV r n by simpa using w3).1
  have ng : ∀ {x : Int}, 0 ≤ x → decide (x < 0) = false := fun h => decide_eq_false (by omega)
  have gt : ∀ {x : Int}, x ≤ 10800000 → decide (x > 10800000) = false := fun h => decide_eq_false (by omega)
  refine ⟨⟨Q, R⟩, trivial, bc_no (not_arc S0.1) (bc_no (ng S0.2.1) (bc_no (gt S0.2.2) ⟨⟨R, P⟩, trivial, bc_no (not_arc S1.1) (bc_no (ng S1.2.1) (bc_no (gt S1.2.2) ⟨⟨P, Q⟩, trivial, bc_no (not_arc S2.1) (bc_no (ng S2.2.1) (bc_no (gt S2.2.2) ?_))⟩))⟩))⟩
  have q00 : Q37 0 0 := by unfold Q37; omega
  have rng : ∀ (a b c : Int × Int) (x y : Int), x = (agP a b c).1 → y = (agP a b c).2 → (agP a b c).1 ≤ (agP a b c).2 → 0 ≤ x ∧ x ≤ y ∧ y ≤ 10800000 := fun a b c x y hx hy hl => by
    have g := ag_range a b c
    rw [hx, hy]
    omega
  refine corner_step (a := dsL q m r n) (a' := dsH q m r n) (b := dsL r n p l) (b' := dsH r n p l) (c := dsL p l q m) (c' := dsH p l q m) (x := crL p l q m) (x' := crH p l q m) (y := crL p l r n) (y' := crH p l r n) k0 S0 S1 S2 (cr_crs _ _ _ _) (cr_crs _ _ _ _) ⟨P, Q⟩ ⟨P, R⟩ ?_
  intro l0 t t' et et'
  have rt := rng _ _ _ t t' et et' (k0.ang l0).2.1
  have qt : Q37 t t' := by unfold Q37; omega
  refine ⟨⟨q00, qt⟩, ?_⟩
  refine corner_step (a := dsL r n p l) (a' := dsH r n p l) (b := dsL p l q m) (b' := dsH p l q m) (c := dsL q m r n) (c' := dsH q m r n) (x := crL q m r n) (x' := crH q m r n) (y := crL q m p l) (y' := crH q m p l) k1 S1 S2 S0 (cr_crs _ _ _ _) (cr_crs _ _ _ _) ⟨Q, R⟩ ⟨Q, P⟩ ?_
  intro l1 u u' eu eu'
  have ru := rng _ _ _ u u' eu eu' (k1.ang l1).2.1
  have qu : Q37 u u' := by unfold Q37; omega
  refine ⟨⟨by unfold Q37; omega, qu⟩, ?_⟩
  refine corner_step (a := dsL p l q m) (a' := dsH p l q m) (b := dsL q m r n) (b' := dsH q m r n) (c := dsL r n p l) (c' := dsH r n p l) (x := crL r n p l) (x' := crH r n p l) (y := crL r n q m) (y' := crH r n q m) k2 S2 S0 S1 (cr_crs _ _ _ _) (cr_crs _ _ _ _) ⟨R, P⟩ ⟨R, Q⟩ ?_
  intro l2 v v' ev ev'
  have rv := rng _ _ _ v v' ev ev' (k2.ang l2).2.1
  have qv : Q37 v v' := by unfold Q37; omega
  obtain ⟨⟨s0, c0⟩, hx⟩ := kx l0 l1 l2
  refine ⟨⟨by unfold Q37; omega, qv⟩, ⟨S0, S1, S2, okx, s0, c0⟩, ?_⟩
  rintro z z' e ⟨k | k⟩
  · rw [k.1]
    exact rfl
  · obtain ⟨e0, hz, ez, ez'⟩ := k
    rw [e0]
    have g := hx hz
    have et : t = (agP (dsP q m r n) (dsP r n p l) (dsP p l q m)).1 := et
    have et' : t' = (agP (dsP q m r n) (dsP r n p l) (dsP p l q m)).2 := et'
    have eu : u = (agP (dsP r n p l) (dsP p l q m) (dsP q m r n)).1 := eu
    have eu' : u' = (agP (dsP r n p l) (dsP p l q m) (dsP q m r n)).2 := eu'
    have ev : v = (agP (dsP p l q m) (dsP q m r n) (dsP r n p l)).1 := ev
    have ev' : v' = (agP (dsP p l q m) (dsP q m r n) (dsP r n p l)).2 := ev'
    have ez : z = 4 * (exZ (dsP q m r n) (dsP r n p l) (dsP p l q m)).1 := ez
    have ez' : z' = 4 * (exZ (dsP q m r n) (dsP r n p l) (dsP p l q m)).2 := ez'
    have zr := ex_range (dsP q m r n) (dsP r n p l) (dsP p l q m)
    rw [← et, ← et', ← eu, ← eu', ← ev, ← ev', ← ez, ← ez'] at g
    have m : MtJ z z' (0 + t + u + v - 10800000) (0 + t' + u' + v' - 10800000) := by
      unfold MtJ ArcV
      omega
    refine ⟨trivial, ⟨by unfold Q37; omega, by unfold Q37; omega⟩, trivial, ?_⟩
    rw [decide_eq_true m]
end
end Go.Proofs.YtjdcicjhpegphaaGreat
namespace Go.Proofs.YtjdcicjhpegphaaGreat
open Go Go.Abs Go.RowKit Go.Sine
theorem st_anyT : ∀ w w' : World, True → Below w.heap.size w w' → True := fun _ _ _ _ => trivial
theorem c_awakeT : Ans Tryz.prog (fun _ => True) 5 [] (.bool true) := by
  obtain ⟨X, Y, hi⟩ := c_gcinverse
  exact c_wayawake st_anyT (hi st_anyT)
theorem walk_triangles (p l q m r n : Int) (W : World) : Calls Tryz.prog 4 #[wid p l, wid q m, wid r n] W fun e w' => e = .returned (.bool true) ∧ Below W.heap.size W w' :=
  law_triangles st_anyT c_awakeT p l q m r n W trivial
end Go.Proofs.YtjdcicjhpegphaaGreat
