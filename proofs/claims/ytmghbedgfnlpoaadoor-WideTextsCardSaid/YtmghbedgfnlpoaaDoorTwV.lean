/- What the texts of wide integers ask. -/
import Derived.Test.YtmghbedgfnlpoaaDoorTwS
namespace Go.Proofs.YtmghbedgfnlpoaaDoor
open Go Go.Abs Go.RowKit
set_option linter.unusedVariables false
set_option linter.unusedSimpArgs false
theorem vc_wtext (a b H L : Int) (N : Bool) (dq dr : Int → Int → Int → Int) (fu : Int → ByteArray) (rp : ByteArray → Int → ByteArray) (K : Value → Prop) : callsX Tryd.prog (ΓTx H L N dq dr fu rp) (ATw) 5 [wid a b] K = (
 True ∧
 bcase (!decide (WV a b)) (K (Value.tuple #[Value.string (ByteArray.mk #[]), Value.int IntKind.i64 1]))
 (SzIs a b H L N ∧
 bcase (decide (H > 0))
 (DvOk 0 H 1000000000000000000 ∧
 DvOk (dr 0 H 1000000000000000000) L 1000000000000000000 ∧
 FuOk (dr (dr 0 H 1000000000000000000) L 1000000000000000000) 10 ∧
 RpOk (ByteArray.mk #[48]) (IntKind.i64.wrap (18 - (↑(fu (dr (dr 0 H 1000000000000000000) L 1000000000000000000)).size : Int))) ∧
 bcase (tooLong (rp (ByteArray.mk #[48]) (IntKind.i64.wrap (18 - (↑(fu (dr (dr 0 H 1000000000000000000) L 1000000000000000000)).size : Int)))) (fu (dr (dr 0 H 1000000000000000000) L 1000000000000000000))) False
 (bcase (tooLong (rp (ByteArray.mk #[48]) (IntKind.i64.wrap (18 - (↑(fu (dr (dr 0 H 1000000000000000000) L 1000000000000000000)).size : Int))) ++ fu (dr (dr 0 H 1000000000000000000) L 1000000000000000000)) (ByteArray.mk #[])) False
 (bcase (decide (dq 0 H 1000000000000000000 > 0))
 (DvOk 0 (dq 0 H 1000000000000000000) 1000000000000000000 ∧
 DvOk (dr 0 (dq 0 H 1000000000000000000) 1000000000000000000) (dq (dr 0 H 1000000000000000000) L 1000000000000000000) 1000000000000000000 ∧
 FuOk (dr (dr 0 (dq 0 H 1000000000000000000) 1000000000000000000) (dq (dr 0 H 1000000000000000000) L 1000000000000000000) 1000000000000000000) 10 ∧
 RpOk (ByteArray.mk #[48]) (IntKind.i64.wrap (18 - (↑(fu (dr (dr 0 (dq 0 H 1000000000000000000) 1000000000000000000) (dq (dr 0 H 1000000000000000000) L 1000000000000000000) 1000000000000000000)).size : Int))) ∧
 bcase (tooLong (rp (ByteArray.mk #[48]) (IntKind.i64.wrap (18 - (↑(fu (dr (dr 0 (dq 0 H 1000000000000000000) 1000000000000000000) (dq (dr 0 H 1000000000000000000) L 1000000000000000000) 1000000000000000000)).size : Int)))) (fu (dr (dr 0 (dq 0 H 1000000000000000000) 1000000000000000000) (dq (dr 0 H 1000000000000000000) L 1000000000000000000) 1000000000000000000))) False
 (bcase
 (tooLong (rp (ByteArray.mk #[48]) (IntKind.i64.wrap (18 - (↑(fu (dr (dr 0 (dq 0 H 1000000000000000000) 1000000000000000000) (dq (dr 0 H 1000000000000000000) L 1000000000000000000) 1000000000000000000)).size : Int))) ++ fu (dr (dr 0 (dq 0 H 1000000000000000000) 1000000000000000000) (dq (dr 0 H 1000000000000000000) L 1000000000000000000) 1000000000000000000))
 (rp (ByteArray.mk #[48]) (IntKind.i64.wrap (18 - (↑(fu (dr (dr 0 H 1000000000000000000) L 1000000000000000000)).size : Int))) ++ fu (dr (dr 0 H 1000000000000000000) L 1000000000000000000) ++ ByteArray.mk #[]))
 False False))
 (bcase (decide (dq (dr 0 H 1000000000000000000) L 1000000000000000000 ≥ 1000000000000000000))
 (FuOk ((dq (dr 0 H 1000000000000000000) L 1000000000000000000).tmod 1000000000000000000) 10 ∧
 RpOk (ByteArray.mk #[48]) (IntKind.i64.wrap (18 - (↑(fu ((dq (dr 0 H 1000000000000000000) L 1000000000000000000).tmod 1000000000000000000)).size : Int))) ∧
 bcase (tooLong (rp (ByteArray.mk #[48]) (IntKind.i64.wrap (18 - (↑(fu ((dq (dr 0 H 1000000000000000000) L 1000000000000000000).tmod 1000000000000000000)).size : Int)))) (fu ((dq (dr 0 H 1000000000000000000) L 1000000000000000000).tmod 1000000000000000000))) False
 (bcase
 (tooLong (rp (ByteArray.mk #[48]) (IntKind.i64.wrap (18 - (↑(fu ((dq (dr 0 H 1000000000000000000) L 1000000000000000000).tmod 1000000000000000000)).size : Int))) ++ fu ((dq (dr 0 H 1000000000000000000) L 1000000000000000000).tmod 1000000000000000000))
 (rp (ByteArray.mk #[48]) (IntKind.i64.wrap (18 - (↑(fu (dr (dr 0 H 1000000000000000000) L 1000000000000000000)).size : Int))) ++ fu (dr (dr 0 H 1000000000000000000) L 1000000000000000000) ++ ByteArray.mk #[]))
 False
 (bcase (decide (IntKind.u64.wrap ((dq (dr 0 H 1000000000000000000) L 1000000000000000000).tdiv 1000000000000000000) > 0))
 (FuOk (IntKind.u64.wrap ((dq (dr 0 H 1000000000000000000) L 1000000000000000000).tdiv 1000000000000000000)) 10 ∧
 bcase
 (tooLong (fu (IntKind.u64.wrap ((dq (dr 0 H 1000000000000000000) L 1000000000000000000).tdiv 1000000000000000000)))
 (rp (ByteArray.mk #[48]) (IntKind.i64.wrap (18 - (↑(fu ((dq (dr 0 H 1000000000000000000) L 1000000000000000000).tmod 1000000000000000000)).size : Int))) ++ fu ((dq (dr 0 H 1000000000000000000) L 1000000000000000000).tmod 1000000000000000000) ++
 (rp (ByteArray.mk #[48]) (IntKind.i64.wrap (18 - (↑(fu (dr (dr 0 H 1000000000000000000) L 1000000000000000000)).size : Int))) ++ fu (dr (dr 0 H 1000000000000000000) L 1000000000000000000) ++ ByteArray.mk #[])))
 False
 (bcase N
 (bcase
 (tooLong (ByteArray.mk #[45])
 (fu (IntKind.u64.wrap ((dq (dr 0 H 1000000000000000000) L 1000000000000000000).tdiv 1000000000000000000)) ++
 (rp (ByteArray.mk #[48]) (IntKind.i64.wrap (18 - (↑(fu ((dq (dr 0 H 1000000000000000000) L 1000000000000000000).tmod 1000000000000000000)).size : Int))) ++ fu ((dq (dr 0 H 1000000000000000000) L 1000000000000000000).tmod 1000000000000000000) ++
 (rp (ByteArray.mk #[48]) (IntKind.i64.wrap (18 - (↑(fu (dr (dr 0 H 1000000000000000000) L 1000000000000000000)).size : Int))) ++ fu (dr (dr 0 H 1000000000000000000) L 1000000000000000000) ++ ByteArray.mk #[]))))
 False
 (K
 (Value.tuple
 #[Value.string
 (ByteArray.mk #[45] ++
 (fu (IntKind.u64.wrap ((dq (dr 0 H 1000000000000000000) L 1000000000000000000).tdiv 1000000000000000000)) ++
 (rp (ByteArray.mk #[48]) (IntKind.i64.wrap (18 - (↑(fu ((dq (dr 0 H 1000000000000000000) L 1000000000000000000).tmod 1000000000000000000)).size : Int))) ++ fu ((dq (dr 0 H 1000000000000000000) L 1000000000000000000).tmod 1000000000000000000) ++
 (rp (ByteArray.mk #[48]) (IntKind.i64.wrap (18 - (↑(fu (dr (dr 0 H 1000000000000000000) L 1000000000000000000)).size : Int))) ++ fu (dr (dr 0 H 1000000000000000000) L 1000000000000000000) ++ ByteArray.mk #[])))),
 Value.int IntKind.i64 0])))
 (K
 (Value.tuple
 #[Value.string
 (fu (IntKind.u64.wrap ((dq (dr 0 H 1000000000000000000) L 1000000000000000000).tdiv 1000000000000000000)) ++
 (rp (ByteArray.mk #[48]) (IntKind.i64.wrap (18 - (↑(fu ((dq (dr 0 H 1000000000000000000) L 1000000000000000000).tmod 1000000000000000000)).size : Int))) ++ fu ((dq (dr 0 H 1000000000000000000) L 1000000000000000000).tmod 1000000000000000000) ++
 (rp (ByteArray.mk #[48]) (IntKind.i64.wrap (18 - (↑(fu (dr (dr 0 H 1000000000000000000) L 1000000000000000000)).size : Int))) ++ fu (dr (dr 0 H 1000000000000000000) L 1000000000000000000) ++ ByteArray.mk #[]))),
 Value.int IntKind.i64 0]))))
 (bcase
 ((rp (ByteArray.mk #[48]) (IntKind.i64.wrap (18 - (↑(fu ((dq (dr 0 H 1000000000000000000) L 1000000000000000000).tmod 1000000000000000000)).size : Int))) ++ fu ((dq (dr 0 H 1000000000000000000) L 1000000000000000000).tmod 1000000000000000000) ++
 (rp (ByteArray.mk #[48]) (IntKind.i64.wrap (18 - (↑(fu (dr (dr 0 H 1000000000000000000) L 1000000000000000000)).size : Int))) ++ fu (dr (dr 0 H 1000000000000000000) L 1000000000000000000) ++ ByteArray.mk #[])).toList ==
 [])
 (FuOk (IntKind.u64.wrap ((dq (dr 0 H 1000000000000000000) L 1000000000000000000).tdiv 1000000000000000000)) 10 ∧
 bcase
 (tooLong (fu (IntKind.u64.wrap ((dq (dr 0 H 1000000000000000000) L 1000000000000000000).tdiv 1000000000000000000)))
 (rp (ByteArray.mk #[48]) (IntKind.i64.wrap (18 - (↑(fu ((dq (dr 0 H 1000000000000000000) L 1000000000000000000).tmod 1000000000000000000)).size : Int))) ++ fu ((dq (dr 0 H 1000000000000000000) L 1000000000000000000).tmod 1000000000000000000) ++
 (rp (ByteArray.mk #[48]) (IntKind.i64.wrap (18 - (↑(fu (dr (dr 0 H 1000000000000000000) L 1000000000000000000)).size : Int))) ++ fu (dr (dr 0 H 1000000000000000000) L 1000000000000000000) ++ ByteArray.mk #[])))
 False
 (bcase N
 (bcase
 (tooLong (ByteArray.mk #[45])
 (fu (IntKind.u64.wrap ((dq (dr 0 H 1000000000000000000) L 1000000000000000000).tdiv 1000000000000000000)) ++
 (rp (ByteArray.mk #[48]) (IntKind.i64.wrap (18 - (↑(fu ((dq (dr 0 H 1000000000000000000) L 1000000000000000000).tmod 1000000000000000000)).size : Int))) ++ fu ((dq (dr 0 H 1000000000000000000) L 1000000000000000000).tmod 1000000000000000000) ++
 (rp (ByteArray.mk #[48]) (IntKind.i64.wrap (18 - (↑(fu (dr (dr 0 H 1000000000000000000) L 1000000000000000000)).size : Int))) ++ fu (dr (dr 0 H 1000000000000000000) L 1000000000000000000) ++ ByteArray.mk #[]))))
 False
 (K
 (Value.tuple
 #[Value.string
 (ByteArray.mk #[45] ++
 (fu (IntKind.u64.wrap ((dq (dr 0 H 1000000000000000000) L 1000000000000000000).tdiv 1000000000000000000)) ++
 (rp (ByteArray.mk #[48]) (IntKind.i64.wrap (18 - (↑(fu ((dq (dr 0 H 1000000000000000000) L 1000000000000000000).tmod 1000000000000000000)).size : Int))) ++ fu ((dq (dr 0 H 1000000000000000000) L 1000000000000000000).tmod 1000000000000000000) ++
 (rp (ByteArray.mk #[48]) (IntKind.i64.wrap (18 - (↑(fu (dr (dr 0 H 1000000000000000000) L 1000000000000000000)).size : Int))) ++ fu (dr (dr 0 H 1000000000000000000) L 1000000000000000000) ++ ByteArray.mk #[])))),
 Value.int IntKind.i64 0])))
 (K
 (Value.tuple
 #[Value.string
 (fu (IntKind.u64.wrap ((dq (dr 0 H 1000000000000000000) L 1000000000000000000).tdiv 1000000000000000000)) ++
 (rp (ByteArray.mk #[48]) (IntKind.i64.wrap (18 - (↑(fu ((dq (dr 0 H 1000000000000000000) L 1000000000000000000).tmod 1000000000000000000)).size : Int))) ++ fu ((dq (dr 0 H 1000000000000000000) L 1000000000000000000).tmod 1000000000000000000) ++
 (rp (ByteArray.mk #[48]) (IntKind.i64.wrap (18 - (↑(fu (dr (dr 0 H 1000000000000000000) L 1000000000000000000)).size : Int))) ++ fu (dr (dr 0 H 1000000000000000000) L 1000000000000000000) ++ ByteArray.mk #[]))),
 Value.int IntKind.i64 0]))))
 (False ∧
 bcase N
 (bcase
 (tooLong (ByteArray.mk #[45])
 (rp (ByteArray.mk #[48]) (IntKind.i64.wrap (18 - (↑(fu ((dq (dr 0 H 1000000000000000000) L 1000000000000000000).tmod 1000000000000000000)).size : Int))) ++ fu ((dq (dr 0 H 1000000000000000000) L 1000000000000000000).tmod 1000000000000000000) ++
 (rp (ByteArray.mk #[48]) (IntKind.i64.wrap (18 - (↑(fu (dr (dr 0 H 1000000000000000000) L 1000000000000000000)).size : Int))) ++ fu (dr (dr 0 H 1000000000000000000) L 1000000000000000000) ++ ByteArray.mk #[])))
 False
 (K
 (Value.tuple
 #[Value.string
 (ByteArray.mk #[45] ++
 (rp (ByteArray.mk #[48]) (IntKind.i64.wrap (18 - (↑(fu ((dq (dr 0 H 1000000000000000000) L 1000000000000000000).tmod 1000000000000000000)).size : Int))) ++ fu ((dq (dr 0 H 1000000000000000000) L 1000000000000000000).tmod 1000000000000000000) ++
 (rp (ByteArray.mk #[48]) (IntKind.i64.wrap (18 - (↑(fu (dr (dr 0 H 1000000000000000000) L 1000000000000000000)).size : Int))) ++ fu (dr (dr 0 H 1000000000000000000) L 1000000000000000000) ++ ByteArray.mk #[]))),
 Value.int IntKind.i64 0])))
 (K
 (Value.tuple
 #[Value.string
 (rp (ByteArray.mk #[48]) (IntKind.i64.wrap (18 - (↑(fu ((dq (dr 0 H 1000000000000000000) L 1000000000000000000).tmod 1000000000000000000)).size : Int))) ++ fu ((dq (dr 0 H 1000000000000000000) L 1000000000000000000).tmod 1000000000000000000) ++
 (rp (ByteArray.mk #[48]) (IntKind.i64.wrap (18 - (↑(fu (dr (dr 0 H 1000000000000000000) L 1000000000000000000)).size : Int))) ++ fu (dr (dr 0 H 1000000000000000000) L 1000000000000000000) ++ ByteArray.mk #[])),
 Value.int IntKind.i64 0])))))))
 (bcase (decide (dq (dr 0 H 1000000000000000000) L 1000000000000000000 > 0))
 (FuOk (dq (dr 0 H 1000000000000000000) L 1000000000000000000) 10 ∧
 bcase (tooLong (fu (dq (dr 0 H 1000000000000000000) L 1000000000000000000)) (rp (ByteArray.mk #[48]) (IntKind.i64.wrap (18 - (↑(fu (dr (dr 0 H 1000000000000000000) L 1000000000000000000)).size : Int))) ++ fu (dr (dr 0 H 1000000000000000000) L 1000000000000000000) ++ ByteArray.mk #[])) False
 (bcase N
 (bcase (tooLong (ByteArray.mk #[45]) (fu (dq (dr 0 H 1000000000000000000) L 1000000000000000000) ++ (rp (ByteArray.mk #[48]) (IntKind.i64.wrap (18 - (↑(fu (dr (dr 0 H 1000000000000000000) L 1000000000000000000)).size : Int))) ++ fu (dr (dr 0 H 1000000000000000000) L 1000000000000000000) ++ ByteArray.mk #[]))) False
 (K (Value.tuple #[Value.string (ByteArray.mk #[45] ++ (fu (dq (dr 0 H 1000000000000000000) L 1000000000000000000) ++ (rp (ByteArray.mk #[48]) (IntKind.i64.wrap (18 - (↑(fu (dr (dr 0 H 1000000000000000000) L 1000000000000000000)).size : Int))) ++ fu (dr (dr 0 H 1000000000000000000) L 1000000000000000000) ++ ByteArray.mk #[]))), Value.int IntKind.i64 0])))
 (K (Value.tuple #[Value.string (fu (dq (dr 0 H 1000000000000000000) L 1000000000000000000) ++ (rp (ByteArray.mk #[48]) (IntKind.i64.wrap (18 - (↑(fu (dr (dr 0 H 1000000000000000000) L 1000000000000000000)).size : Int))) ++ fu (dr (dr 0 H 1000000000000000000) L 1000000000000000000) ++ ByteArray.mk #[])), Value.int IntKind.i64 0]))))
 (bcase ((rp (ByteArray.mk #[48]) (IntKind.i64.wrap (18 - (↑(fu (dr (dr 0 H 1000000000000000000) L 1000000000000000000)).size : Int))) ++ fu (dr (dr 0 H 1000000000000000000) L 1000000000000000000) ++ ByteArray.mk #[]).toList == [])
 (FuOk (dq (dr 0 H 1000000000000000000) L 1000000000000000000) 10 ∧
 bcase (tooLong (fu (dq (dr 0 H 1000000000000000000) L 1000000000000000000)) (rp (ByteArray.mk #[48]) (IntKind.i64.wrap (18 - (↑(fu (dr (dr 0 H 1000000000000000000) L 1000000000000000000)).size : Int))) ++ fu (dr (dr 0 H 1000000000000000000) L 1000000000000000000) ++ ByteArray.mk #[])) False
 (bcase N
 (bcase (tooLong (ByteArray.mk #[45]) (fu (dq (dr 0 H 1000000000000000000) L 1000000000000000000) ++ (rp (ByteArray.mk #[48]) (IntKind.i64.wrap (18 - (↑(fu (dr (dr 0 H 1000000000000000000) L 1000000000000000000)).size : Int))) ++ fu (dr (dr 0 H 1000000000000000000) L 1000000000000000000) ++ ByteArray.mk #[]))) False
 (K (Value.tuple #[Value.string (ByteArray.mk #[45] ++ (fu (dq (dr 0 H 1000000000000000000) L 1000000000000000000) ++ (rp (ByteArray.mk #[48]) (IntKind.i64.wrap (18 - (↑(fu (dr (dr 0 H 1000000000000000000) L 1000000000000000000)).size : Int))) ++ fu (dr (dr 0 H 1000000000000000000) L 1000000000000000000) ++ ByteArray.mk #[]))), Value.int IntKind.i64 0])))
 (K (Value.tuple #[Value.string (fu (dq (dr 0 H 1000000000000000000) L 1000000000000000000) ++ (rp (ByteArray.mk #[48]) (IntKind.i64.wrap (18 - (↑(fu (dr (dr 0 H 1000000000000000000) L 1000000000000000000)).size : Int))) ++ fu (dr (dr 0 H 1000000000000000000) L 1000000000000000000) ++ ByteArray.mk #[])), Value.int IntKind.i64 0]))))
 (False ∧
 bcase N
 (bcase (tooLong (ByteArray.mk #[45]) (rp (ByteArray.mk #[48]) (IntKind.i64.wrap (18 - (↑(fu (dr (dr 0 H 1000000000000000000) L 1000000000000000000)).size : Int))) ++ fu (dr (dr 0 H 1000000000000000000) L 1000000000000000000) ++ ByteArray.mk #[])) False
 (K (Value.tuple #[Value.string (ByteArray.mk #[45] ++ (rp (ByteArray.mk #[48]) (IntKind.i64.wrap (18 - (↑(fu (dr (dr 0 H 1000000000000000000) L 1000000000000000000)).size : Int))) ++ fu (dr (dr 0 H 1000000000000000000) L 1000000000000000000) ++ ByteArray.mk #[])), Value.int IntKind.i64 0])))
 (K (Value.tuple #[Value.string (rp (ByteArray.mk #[48]) (IntKind.i64.wrap (18 - (↑(fu (dr (dr 0 H 1000000000000000000) L 1000000000000000000)).size : Int))) ++ fu (dr (dr 0 H 1000000000000000000) L 1000000000000000000) ++ ByteArray.mk #[]), Value.int IntKind.i64 0])))))))))
 (bcase (decide (L ≥ 1000000000000000000))
 (FuOk (L.tmod 1000000000000000000) 10 ∧
 RpOk (ByteArray.mk #[48]) (IntKind.i64.wrap (18 - (↑(fu (L.tmod 1000000000000000000)).size : Int))) ∧
 bcase (tooLong (rp (ByteArray.mk #[48]) (IntKind.i64.wrap (18 - (↑(fu (L.tmod 1000000000000000000)).size : Int)))) (fu (L.tmod 1000000000000000000))) False
 (bcase (tooLong (rp (ByteArray.mk #[48]) (IntKind.i64.wrap (18 - (↑(fu (L.tmod 1000000000000000000)).size : Int))) ++ fu (L.tmod 1000000000000000000)) (ByteArray.mk #[])) False
 (bcase (decide (IntKind.u64.wrap (L.tdiv 1000000000000000000) > 0))
 (FuOk (IntKind.u64.wrap (L.tdiv 1000000000000000000)) 10 ∧
 bcase (tooLong (fu (IntKind.u64.wrap (L.tdiv 1000000000000000000))) (rp (ByteArray.mk #[48]) (IntKind.i64.wrap (18 - (↑(fu (L.tmod 1000000000000000000)).size : Int))) ++ fu (L.tmod 1000000000000000000) ++ ByteArray.mk #[])) False
 (bcase N
 (bcase (tooLong (ByteArray.mk #[45]) (fu (IntKind.u64.wrap (L.tdiv 1000000000000000000)) ++ (rp (ByteArray.mk #[48]) (IntKind.i64.wrap (18 - (↑(fu (L.tmod 1000000000000000000)).size : Int))) ++ fu (L.tmod 1000000000000000000) ++ ByteArray.mk #[]))) False
 (K (Value.tuple #[Value.string (ByteArray.mk #[45] ++ (fu (IntKind.u64.wrap (L.tdiv 1000000000000000000)) ++ (rp (ByteArray.mk #[48]) (IntKind.i64.wrap (18 - (↑(fu (L.tmod 1000000000000000000)).size : Int))) ++ fu (L.tmod 1000000000000000000) ++ ByteArray.mk #[]))), Value.int IntKind.i64 0])))
 (K (Value.tuple #[Value.string (fu (IntKind.u64.wrap (L.tdiv 1000000000000000000)) ++ (rp (ByteArray.mk #[48]) (IntKind.i64.wrap (18 - (↑(fu (L.tmod 1000000000000000000)).size : Int))) ++ fu (L.tmod 1000000000000000000) ++ ByteArray.mk #[])), Value.int IntKind.i64 0]))))
 (bcase ((rp (ByteArray.mk #[48]) (IntKind.i64.wrap (18 - (↑(fu (L.tmod 1000000000000000000)).size : Int))) ++ fu (L.tmod 1000000000000000000) ++ ByteArray.mk #[]).toList == [])
 (FuOk (IntKind.u64.wrap (L.tdiv 1000000000000000000)) 10 ∧
 bcase (tooLong (fu (IntKind.u64.wrap (L.tdiv 1000000000000000000))) (rp (ByteArray.mk #[48]) (IntKind.i64.wrap (18 - (↑(fu (L.tmod 1000000000000000000)).size : Int))) ++ fu (L.tmod 1000000000000000000) ++ ByteArray.mk #[])) False
 (bcase N
 (bcase (tooLong (ByteArray.mk #[45]) (fu (IntKind.u64.wrap (L.tdiv 1000000000000000000)) ++ (rp (ByteArray.mk #[48]) (IntKind.i64.wrap (18 - (↑(fu (L.tmod 1000000000000000000)).size : Int))) ++ fu (L.tmod 1000000000000000000) ++ ByteArray.mk #[]))) False
 (K (Value.tuple #[Value.string (ByteArray.mk #[45] ++ (fu (IntKind.u64.wrap (L.tdiv 1000000000000000000)) ++ (rp (ByteArray.mk #[48]) (IntKind.i64.wrap (18 - (↑(fu (L.tmod 1000000000000000000)).size : Int))) ++ fu (L.tmod 1000000000000000000) ++ ByteArray.mk #[]))), Value.int IntKind.i64 0])))
 (K (Value.tuple #[Value.string (fu (IntKind.u64.wrap (L.tdiv 1000000000000000000)) ++ (rp (ByteArray.mk #[48]) (IntKind.i64.wrap (18 - (↑(fu (L.tmod 1000000000000000000)).size : Int))) ++ fu (L.tmod 1000000000000000000) ++ ByteArray.mk #[])), Value.int IntKind.i64 0]))))
 (False ∧
 bcase N
 (bcase (tooLong (ByteArray.mk #[45]) (rp (ByteArray.mk #[48]) (IntKind.i64.wrap (18 - (↑(fu (L.tmod 1000000000000000000)).size : Int))) ++ fu (L.tmod 1000000000000000000) ++ ByteArray.mk #[])) False
 (K (Value.tuple #[Value.string (ByteArray.mk #[45] ++ (rp (ByteArray.mk #[48]) (IntKind.i64.wrap (18 - (↑(fu (L.tmod 1000000000000000000)).size : Int))) ++ fu (L.tmod 1000000000000000000) ++ ByteArray.mk #[])), Value.int IntKind.i64 0])))
 (K (Value.tuple #[Value.string (rp (ByteArray.mk #[48]) (IntKind.i64.wrap (18 - (↑(fu (L.tmod 1000000000000000000)).size : Int))) ++ fu (L.tmod 1000000000000000000) ++ ByteArray.mk #[]), Value.int IntKind.i64 0])))))))
 (bcase (decide (L > 0)) (FuOk L 10 ∧ bcase (tooLong (fu L) (ByteArray.mk #[])) False (bcase N (bcase (tooLong (ByteArray.mk #[45]) (fu L ++ ByteArray.mk #[])) False (K (Value.tuple #[Value.string (ByteArray.mk #[45] ++ (fu L ++ ByteArray.mk #[])), Value.int IntKind.i64 0]))) (K (Value.tuple #[Value.string (fu L ++ ByteArray.mk #[]), Value.int IntKind.i64 0]))))
 (FuOk L 10 ∧ bcase (tooLong (fu L) (ByteArray.mk #[])) False (bcase N (bcase (tooLong (ByteArray.mk #[45]) (fu L ++ ByteArray.mk #[])) False (K (Value.tuple #[Value.string (ByteArray.mk #[45] ++ (fu L ++ ByteArray.mk #[])), Value.int IntKind.i64 0]))) (K (Value.tuple #[Value.string (fu L ++ ByteArray.mk #[]), Value.int IntKind.i64 0])))))))) := by kernel_rfl
theorem vc_rtext (a b : Int) (m : Nat) (K : Value → Prop) : callsX Tryd.prog (ΓRt) (ARt m) 7 [wid a b] K = (
 (I64 a ∧ I64 b) ∧
 bcase ((↑(dig (val a b).natAbs).length : Int) == 0) (K (Value.string (ByteArray.mk #[48])))
 (∃ (s : Nat × List UInt8),
 (ByteArray.mk #[] = ByteArray.mk s.snd.toArray ∧ (dig (val a b).natAbs).length = (dig s.fst).length ∧ a = a ∧ b = b ∧ (dig (val a b).natAbs).length = (dig (val a b).natAbs).length ∧ decide (val a b < 0) = decide (val a b < 0) ∧ dig (val a b).natAbs = dig s.fst ∧ True) ∧
 (s.fst ≤ m ∧ digL s.fst 0 ++ s.snd = digL m 0) ∧
 ∀ (s : Nat × List UInt8),
 s.fst ≤ m ∧ digL s.fst 0 ++ s.snd = digL m 0 →
 bcase (decide ((↑(dig s.fst).length : Int) > 0))
 (0 + (dig s.fst).length ≤ (dig s.fst).length ∧
 ∀ (z : List Int),
 z = List.take (dig s.fst).length (dig s.fst) →
 (YtmghbedgfnlpoaaDoor.Can z ∧ YtmghbedgfnlpoaaDoor.Can [10] ∧ 1 ≤ 40 ∧ 10 ≠ 0) ∧
 bcase (decide ((↑(dig (nv z % 10)).length : Int) > 0))
 (bcase (inB 0 (dig (nv z % 10)).length)
 (bcase (Nat.blt 0 (dig (nv z % 10)).length)
 (bcase (tooLong (strV [IntKind.u8.wrap (IntKind.i64.wrap (48 + (dig (nv z % 10)).getD 0 0))]) (ByteArray.mk s.snd.toArray)) False
 (∃ (s_1 : Nat × List UInt8),
 (strV [IntKind.u8.wrap (IntKind.i64.wrap (48 + (dig (nv z % 10)).getD 0 0))] ++ ByteArray.mk s.snd.toArray = ByteArray.mk s_1.snd.toArray ∧ (dig (nv z / 10)).length = (dig s_1.fst).length ∧ a = a ∧ b = b ∧ (dig (val a b).natAbs).length = (dig (val a b).natAbs).length ∧ decide (val a b < 0) = decide (val a b < 0) ∧ dig (nv z / 10) = dig s_1.fst ∧ True) ∧
 (s_1.fst ≤ m ∧ digL s_1.fst 0 ++ s_1.snd = digL m 0) ∧ s_1.fst < s.fst))
 False)
 False)
 (bcase (tooLong (strV [IntKind.u8.wrap (IntKind.i64.wrap (48 + 0))]) (ByteArray.mk s.snd.toArray)) False
 (∃ (s_1 : Nat × List UInt8),
 (strV [IntKind.u8.wrap (IntKind.i64.wrap (48 + 0))] ++ ByteArray.mk s.snd.toArray = ByteArray.mk s_1.snd.toArray ∧ (dig (nv z / 10)).length = (dig s_1.fst).length ∧ a = a ∧ b = b ∧ (dig (val a b).natAbs).length = (dig (val a b).natAbs).length ∧ decide (val a b < 0) = decide (val a b < 0) ∧ dig (nv z / 10) = dig s_1.fst ∧ True) ∧
 (s_1.fst ≤ m ∧ digL s_1.fst 0 ++ s_1.snd = digL m 0) ∧ s_1.fst < s.fst)))
 (bcase (decide (val a b < 0)) (bcase (tooLong (ByteArray.mk #[45]) (ByteArray.mk s.snd.toArray)) False (K (Value.string (ByteArray.mk #[45] ++ ByteArray.mk s.snd.toArray)))) (K (Value.string (ByteArray.mk s.snd.toArray)))))) := by kernel_rfl
theorem vc_lawTexts (a b : Int) (tw : Int → Int → ByteArray) (te : Int → Int → Int) (tr : Int → Int → ByteArray) (K : Value → Prop) : callsX Tryd.prog (ΓLt tw te tr) (noAnn) 3 [wid a b] K = (
 True ∧ True ∧ (I64 a ∧ I64 b) ∧ bcase (!decide (WV a b)) (bcase ((tw a b).toList == []) (K (Value.bool (te a b == 1))) (K (Value.bool false))) (WV a b ∧ bcase ((tw a b).toList == (tr a b).toList) (K (Value.bool (te a b == 0))) (K (Value.bool false)))) := by kernel_rfl
theorem vc_fmtu (u : Int) (fu : Int → ByteArray) (K : Value → Prop) : callsX Tryd.prog (ΓFu fu) (noAnn) 16 [.int .u64 u, num 10] K = (
 FuOk u 10 ∧ K (Value.string (fu u))) := by kernel_rfl
end Go.Proofs.YtmghbedgfnlpoaaDoor
