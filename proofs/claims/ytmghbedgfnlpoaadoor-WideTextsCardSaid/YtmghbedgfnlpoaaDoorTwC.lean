/- Contracts: the program's, and the reference's, text of a wide integer; the law. -/
import Derived.Test.YtmghbedgfnlpoaaDoorTwV
import Derived.Test.YtmghbedgfnlpoaaDoorFmtU
import Derived.Test.YtmghbedgfnlpoaaDoorCtV
import Derived.Test.YtmghbedgfnlpoaaDoorCtO
import Derived.Test.YtmghbedgfnlpoaaDoorLawsN
import Derived.WalkSmall
namespace Go.Proofs.YtmghbedgfnlpoaaDoor
open Go Go.Abs Go.RowKit
set_option linter.unusedVariables false
set_option linter.unusedSimpArgs false
theorem bF {c : Bool} {A B : Prop} (h : c = false) (hb : B) : bcase c A B := by rw [h, bcase_false]; exact hb
theorem bT {c : Bool} {A B : Prop} (h : c = true) (hb : A) : bcase c A B := by rw [h, bcase_true]; exact hb
def bz (l : List UInt8) : ByteArray := ⟨l.toArray⟩
theorem bz_app (a b : List UInt8) : bz a ++ bz b = bz (a ++ b) := by
  apply ByteArray.ext
  simp [bz]
theorem bz_size (l : List UInt8) : (bz l).size = l.length := by simp [bz, ByteArray.size]
theorem not_long {a b : ByteArray} (h : a.size + b.size ≤ 9223372036854775807) : tooLong a b = false := by
  unfold tooLong
  have : IntKind.i64.max = 9223372036854775807 := rfl
  rw [this]
  exact decide_eq_false (by omega)
theorem Tabs.lt {w : World} (h : Tabs w) : 2 < w.heap.size := by
  have := World.var?_cell gPow h 0
  exact World.block_lt_of_cell? w ⟨2, 0, none⟩ this
theorem Tabs.below {w w' : World} (h : Tabs w) {B : Nat} (hb : Below B w w') (hB : w.heap.size ≤ B) : Tabs w' := var?_below hb gPow (Nat.lt_of_lt_of_le h.lt hB) h
theorem st_tabs : ∀ w w', Tabs w → Below w.heap.size w w' → Tabs w' := fun _ _ h hb => h.below hb (Nat.le_refl _)
/-! Decimal digits in blocks. -/
theorem dec_split : ∀ (k N : Nat), 10 ^ k ≤ N → Lib.decDigits N = Lib.decDigits (N / 10 ^ k) ++ digL (N % 10 ^ k) k
  | 0, N, _ => by
    rw [Nat.pow_zero, Nat.div_one, Nat.mod_one, digL_zero, List.append_nil]
  | k + 1, N, h => by
    have h1 : 10 ^ k ≤ N / 10 := by
      rw [Nat.le_div_iff_mul_le (by omega)]
      rw [Nat.pow_succ] at h
      exact h
    have h10 : 10 ≤ N := by
      have : 0 < 10 ^ k := Nat.pow_pos (by omega)
      rw [Nat.pow_succ] at h
      omega
    rw [dec_ge N h10, dec_split k (N / 10) h1, Nat.div_div_eq_div_mul, List.append_assoc]
    have e : digL (N % 10 ^ (k + 1)) (k + 1) = digL (N / 10 % 10 ^ k) k ++ [UInt8.ofNat (48 + N % 10)] := by
      rw [digL_step (by omega), Nat.add_sub_cancel]
      have e1 : N % 10 ^ (k + 1) / 10 = N / 10 % 10 ^ k := by
        rw [Nat.pow_succ, Nat.mul_comm, Nat.mod_mul_right_div_self]
      have e2 : N % 10 ^ (k + 1) % 10 = N % 10 := by
        rw [Nat.pow_succ, Nat.mul_comm]
        exact Nat.mod_mul_right_mod N 10 (10 ^ k)
      rw [e1, e2]
    rw [e, Nat.pow_succ, Nat.mul_comm 10 (10 ^ k)]
theorem split18 (N : Nat) (h : 1000000000000000000 ≤ N) : Lib.decDigits N = Lib.decDigits (N / 1000000000000000000) ++ padL 18 (N % 1000000000000000000) := by
  rw [← digL_pad 18 _ (by omega)]
  exact dec_split 18 N h
theorem dec_le20 (n : Nat) (h : n < 18446744073709551616) : (Lib.decDigits n).length ≤ 20 := by
  rw [← digL_one]
  have := digL_len 20 n 1 (by omega)
  omega
theorem dec_le18 (n : Nat) (h : n < 1000000000000000000) : (Lib.decDigits n).length ≤ 18 := by
  rw [← digL_one]
  have := digL_len 18 n 1 (by omega)
  omega
theorem rep_len (l : List UInt8) (k : Nat) : (Lib.repeatL l k).length = k * l.length := by
  induction k with
  | zero => simp [Lib.repeatL]
  | succ k ih => simp [Lib.repeatL, ih, Nat.add_mul]; try omega
def fuB (n : Int) : ByteArray := bz (Lib.decDigits n.toNat)
def rpB (s : ByteArray) (n : Int) : ByteArray := bz (Lib.repeatL s.data.toList n.toNat)
theorem fuB_nat (n : Nat) : fuB (n : Int) = bz (Lib.decDigits n) := by unfold fuB; rw [Int.toNat_natCast]
theorem pad18 (X : Nat) (h : X < 1000000000000000000) : RpOk (ByteArray.mk #[48]) (IntKind.i64.wrap (18 - ((fuB (X : Int)).size : Int))) ∧
    tooLong (rpB (ByteArray.mk #[48]) (IntKind.i64.wrap (18 - ((fuB (X : Int)).size : Int)))) (fuB (X : Int)) = false ∧
    rpB (ByteArray.mk #[48]) (IntKind.i64.wrap (18 - ((fuB (X : Int)).size : Int))) ++ fuB (X : Int) = bz (padL 18 X) ∧ (padL 18 X).length ≤ 18 := by
  have hl := dec_le18 X h
  rw [fuB_nat, bz_size]
  have w : IntKind.i64.wrap (18 - (((Lib.decDigits X).length : Nat) : Int)) = ((18 - (Lib.decDigits X).length : Nat) : Int) := by rw [wrap_in (by omega)]; omega
  rw [w]
  have e : rpB (ByteArray.mk #[48]) ((18 - (Lib.decDigits X).length : Nat) : Int) = bz (Lib.repeatL [48] (18 - (Lib.decDigits X).length)) := by unfold rpB; rw [Int.toNat_natCast]
  have rl := rep_len [48] (18 - (Lib.decDigits X).length)
  rw [List.length_singleton, Nat.mul_one] at rl
  rw [e, bz_app]
  refine ⟨⟨rfl, by omega, by omega⟩, not_long (by rw [bz_size, bz_size]; omega), rfl, ?_⟩
  unfold padL
  rw [List.length_append]
  omega
def dqI (h l d : Int) : Int := (h * 18446744073709551616 + l) / d
def drI (h l d : Int) : Int := (h * 18446744073709551616 + l) % d
theorem fin_t (N : Bool) (l : List UInt8) (hl : l.length ≤ 100) {K : Value → Prop} (hK : K (.tuple #[.string (bz ((if N = true then [45] else []) ++ l)), .int .i64 0])) :
    bcase N (bcase (tooLong (ByteArray.mk #[45]) (bz l)) False (K (.tuple #[.string (ByteArray.mk #[45] ++ bz l), .int .i64 0]))) (K (.tuple #[.string (bz l), .int .i64 0])) := by
  cases N with
  | true =>
    have s1 : (ByteArray.mk #[45]).size = 1 := rfl
    refine bT rfl (bF (not_long (by rw [bz_size]; omega)) ?_)
    rw [show ByteArray.mk #[45] = bz [45] from rfl, bz_app]
    exact hK
  | false => exact bF rfl hK
def twA (a b : Int) : ByteArray := if WV a b then twB (val a b) else ⟨#[]⟩
theorem c_scfmt (u : Int) (h : U64 u) : Ans Tryd.prog Tabs 16 [.int .u64 u, .int .i64 10] (.string (fuB u)) := by
  refine fn_by st_tabs (Sound.cons (by kernel_rfl) (fun args p v h hp => by
    split at h <;> cases h
    obtain ⟨hu, rfl⟩ := hp
    unfold U64 at hu
    have key : ∀ n : Int, 0 ≤ n ∧ n < 18446744073709551616 → Ans Tryd.prog Tabs 26 [.int .u64 n, .int .i64 10] (.string (fuB n)) := fun n hn => by
      have := c_fmt n.toNat (by omega)
      rw [Int.toNat_of_nonneg hn.1] at this
      exact this
    exact key _ hu) Sound.nil) (vc_fmtu u fuB _) ?_
  exact ⟨⟨h, rfl⟩, rfl⟩
theorem c_wtext (a b : Int) : Ans Tryd.prog Tabs 5 [wid a b] (pair (.string (twA a b)) (num (pick (WV a b) 0 1))) := by
  generalize hm : (val a b).natAbs = m
  have hab : absI (val a b) = (m : Int) := by unfold absI; split <;> omega
  refine fn_by st_tabs
    (Sound.cons (by kernel_rfl) (fun args p v h hp => by unfold sWValid at h; split at h <;> cases h; exact c_wvalid st_tabs _ _)
    (Sound.cons (by kernel_rfl) (fun args p v h hp => by
      split at h <;> cases h
      obtain ⟨hv, e1, e2, e3⟩ := hp
      rw [e1, e2, e3]
      exact c_wsizeof st_tabs _ _ hv)
    (Sound.cons (by kernel_rfl) (fun args p v h hp => by split at h <;> cases h; exact c_div64 st_tabs _ _ _ hp.1 hp.2.1 hp.2.2.1 hp.2.2.2)
    (Sound.cons (by kernel_rfl) (fun args p v h hp => by
      split at h <;> cases h
      obtain ⟨hu, rfl⟩ := hp
      exact c_scfmt _ hu)
    (Sound.cons (by kernel_rfl) (fun args p v h hp => by
      split at h <;> cases h
      rename_i s c
      intro w _
      obtain ⟨rfl, h0, h1⟩ := hp
      have hc : ((c.toNat : Nat) : Int) = c := by omega
      have s1 : (ByteArray.mk #[48]).size = 1 := rfl
      have := Tryd.strings_Repeat (ByteArray.mk #[48]) c.toNat w (by omega) (by rw [s1]; omega)
      rw [hc] at this
      exact this)
    (Sound.cons (by kernel_rfl) (fun args p v h hp => by split at h <;> cases h; exact hp.elim) Sound.nil))))))
    (vc_wtext a b (((m / 18446744073709551616 : Nat)) : Int) (((m % 18446744073709551616 : Nat)) : Int) (decide (val a b < 0)) dqI drI fuB rpB _) ?_
  refine ⟨trivial, bcase_iff.mpr ⟨fun q => ?_, fun q => ?_⟩⟩
  · have q : ¬ WV a b := by simpa using q
    unfold twA
    rw [if_neg q]
    show _ = pair _ (num (pick (WV a b) 0 1))
    unfold pick
    rw [if_neg q]
  · have q : WV a b := by simpa using q
    have q' := q
    unfold WV at q'
    have hmb : m < 1329227995784915872903807060280344577 := by
      have : (m : Int) = absI (val a b) := hab.symm
      unfold absI val at this
      split at this <;> omega
    have hK : ∀ l, l = Lib.decDigits m → Value.tuple #[.string (bz ((if decide (val a b < 0) = true then [45] else []) ++ l)), .int .i64 0] = pair (.string (twA a b)) (num (pick (WV a b) 0 1)) := fun l hl => by
      subst hl
      unfold twA pick twB twL
      rw [if_pos q, if_pos q, hm]
      simp only [decide_eq_true_eq]
      rfl
    have hsz : SzIs a b ((m / 18446744073709551616 : Nat) : Int) ((m % 18446744073709551616 : Nat) : Int) (decide (val a b < 0)) := ⟨q, by rw [hab]; omega, by rw [hab]; omega, rfl⟩
    refine ⟨hsz, ?_⟩
    have fin : ∀ l, l = Lib.decDigits m → l.length ≤ 100 → bcase (decide (val a b < 0)) (bcase (tooLong (ByteArray.mk #[45]) (bz l)) False (Value.tuple #[.string (ByteArray.mk #[45] ++ bz l), .int .i64 0] = pair (.string (twA a b)) (num (pick (WV a b) 0 1)))) (Value.tuple #[.string (bz l), .int .i64 0] = pair (.string (twA a b)) (num (pick (WV a b) 0 1))) := fun l hl hn => fin_t _ l hn (K := fun v => v = _) (hK l hl)
    rw [show ByteArray.mk #[] = bz [] from rfl]
    by_cases h : 0 < m / 18446744073709551616
    · have hbig : 1000000000000000000 ≤ m := by omega
      have e1 : dqI 0 ((m / 18446744073709551616 : Nat) : Int) 1000000000000000000 = 0 := by unfold dqI; omega
      have e2 : drI 0 ((m / 18446744073709551616 : Nat) : Int) 1000000000000000000 = ((m / 18446744073709551616 : Nat) : Int) := by unfold drI; omega
      have e3 : dqI ((m / 18446744073709551616 : Nat) : Int) ((m % 18446744073709551616 : Nat) : Int) 1000000000000000000 = ((m / 1000000000000000000 : Nat) : Int) := by unfold dqI; omega
      have e4 : drI ((m / 18446744073709551616 : Nat) : Int) ((m % 18446744073709551616 : Nat) : Int) 1000000000000000000 = ((m % 1000000000000000000 : Nat) : Int) := by unfold drI; omega
      refine bT (decide_eq_true (by omega)) ?_
      rw [e1, e2, e3, e4]
      obtain ⟨p1, p2, p3, p4⟩ := pad18 (m % 1000000000000000000) (by omega)
      have y64 : m / 1000000000000000000 < 18446744073709551616 := by omega
      have hs := split18 m hbig
      generalize hX : m % 1000000000000000000 = X at *
      generalize hY : m / 1000000000000000000 = Y at *
      rw [p3]
      refine ⟨⟨by unfold U64; omega, by unfold U64; omega, by unfold U64; omega, by omega⟩, ⟨by unfold U64; omega, by unfold U64; omega, by unfold U64; omega, by omega⟩, ⟨by unfold U64; omega, rfl⟩, p1, bF p2 (bF (not_long (by rw [bz_size, bz_size]; simp; omega)) (bF (by decide) ?_))⟩
      rw [bz_app, List.append_nil]
      refine bcase_iff.mpr ⟨fun g => ?_, fun g => ?_⟩
      · have g := of_decide_eq_true g
        have t1 : ((Y : Nat) : Int).tmod 1000000000000000000 = ((Y % 1000000000000000000 : Nat) : Int) := rfl
        have t2 : IntKind.u64.wrap (((Y : Nat) : Int).tdiv 1000000000000000000) = ((Y / 1000000000000000000 : Nat) : Int) := by
          rw [show ((Y : Nat) : Int).tdiv 1000000000000000000 = ((Y / 1000000000000000000 : Nat) : Int) from rfl, IntKind.wrap_u64]; omega
        rw [t1, t2]
        obtain ⟨r1, r2, r3, r4⟩ := pad18 (Y % 1000000000000000000) (by omega)
        have hs2 := split18 Y (by omega)
        have l3 := dec_le20 (Y / 1000000000000000000) (by omega)
        rw [r3, fuB_nat (Y / 1000000000000000000)]
        refine ⟨⟨by unfold U64; omega, rfl⟩, r1, bF r2 (bF (not_long (by rw [bz_size, bz_size]; omega)) (bT (decide_eq_true (by omega)) ⟨⟨by unfold U64; omega, rfl⟩, ?_⟩))⟩
        rw [bz_app, bz_app]
        refine bF (not_long (by rw [bz_size, bz_size, List.length_append]; omega)) (fin _ ?_ (by rw [List.length_append, List.length_append]; omega))
        rw [hs, hs2, List.append_assoc]
      · have g := of_decide_eq_false g
        have l3 := dec_le20 Y y64
        rw [fuB_nat Y]
        refine bT (decide_eq_true (by omega)) ⟨⟨by unfold U64; omega, rfl⟩, bF (not_long (by rw [bz_size, bz_size]; omega)) ?_⟩
        rw [bz_app]
        exact fin _ hs.symm (by rw [List.length_append]; omega)
    · have e0 : m % 18446744073709551616 = m := by omega
      refine bF (decide_eq_false (by omega)) ?_
      rw [e0]
      have m64 : m < 18446744073709551616 := by omega
      refine bcase_iff.mpr ⟨fun g => ?_, fun g => ?_⟩
      · have g := of_decide_eq_true g
        have t1 : ((m : Nat) : Int).tmod 1000000000000000000 = ((m % 1000000000000000000 : Nat) : Int) := rfl
        have t2 : IntKind.u64.wrap (((m : Nat) : Int).tdiv 1000000000000000000) = ((m / 1000000000000000000 : Nat) : Int) := by
          rw [show ((m : Nat) : Int).tdiv 1000000000000000000 = ((m / 1000000000000000000 : Nat) : Int) from rfl, IntKind.wrap_u64]; omega
        rw [t1, t2]
        obtain ⟨r1, r2, r3, r4⟩ := pad18 (m % 1000000000000000000) (by omega)
        have hs2 := split18 m (by omega)
        have l3 := dec_le20 (m / 1000000000000000000) (by omega)
        rw [r3, fuB_nat (m / 1000000000000000000), bz_app, List.append_nil]
        refine ⟨⟨by unfold U64; omega, rfl⟩, r1, bF r2 (bF (not_long (by rw [bz_size, bz_size]; simp; omega)) (bT (decide_eq_true (by omega)) ⟨⟨by unfold U64; omega, rfl⟩, ?_⟩))⟩
        rw [bz_app]
        exact bF (not_long (by rw [bz_size, bz_size]; omega)) (fin _ hs2.symm (by rw [List.length_append]; omega))
      · have l3 := dec_le20 m m64
        rw [fuB_nat m, bz_app, List.append_nil]
        have same : FuOk (m : Int) 10 ∧ bcase (tooLong (bz (Lib.decDigits m)) (bz [])) False (bcase (decide (val a b < 0)) (bcase (tooLong (ByteArray.mk #[45]) (bz (Lib.decDigits m))) False (Value.tuple #[.string (ByteArray.mk #[45] ++ bz (Lib.decDigits m)), .int .i64 0] = pair (.string (twA a b)) (num (pick (WV a b) 0 1)))) (Value.tuple #[.string (bz (Lib.decDigits m)), .int .i64 0] = pair (.string (twA a b)) (num (pick (WV a b) 0 1)))) :=
          ⟨⟨by unfold U64; omega, rfl⟩, bF (not_long (by rw [bz_size, bz_size]; simp; omega)) (fin _ rfl (by omega))⟩
        exact bcase_iff.mpr ⟨fun _ => same, fun _ => same⟩
end Go.Proofs.YtmghbedgfnlpoaaDoor
