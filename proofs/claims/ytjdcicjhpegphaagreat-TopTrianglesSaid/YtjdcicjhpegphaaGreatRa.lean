/- Real numbers as classes of Cauchy sequences of rational numbers: an ordered ring. Plain: no program is in sight here. Real numbers: limits, values between, roots, inverses. Plain: no program is in sight here. Sines and cosines of real angles, a right angle being 1: by halving the right angle. Plain: no program is in sight here. Sines and cosines of real angles, a right angle being 1: limits. Plain: no program is in sight here. Sines and cosines of real angles in units: 5400000 units are a right angle. Plain: no program is in sight here. -/
namespace Go.Re
def Ev (P : Nat → Prop) : Prop := ∃ N, ∀ n, N ≤ n → P n
theorem Ev.and {P Q : Nat → Prop} (h : Ev P) (k : Ev Q) : Ev (fun n => P n ∧ Q n) := by
  obtain ⟨N, h⟩ := h
  obtain ⟨M, k⟩ := k
  exact ⟨N + M, fun n hn => ⟨h n (by omega), k n (by omega)⟩⟩
theorem Ev.mono {P Q : Nat → Prop} (h : Ev P) (k : ∀ n, P n → Q n) : Ev Q := by
  obtain ⟨N, h⟩ := h
  exact ⟨N, fun n hn => k n (h n hn)⟩
theorem Ev.any {P : Nat → Prop} (h : Ev P) : ∃ n, P n := by
  obtain ⟨N, h⟩ := h
  exact ⟨N, h N (Nat.le_refl N)⟩
def Ev2 (P : Nat → Nat → Prop) : Prop := ∃ N, ∀ m n, N ≤ m → N ≤ n → P m n
theorem Ev2.and {P Q : Nat → Nat → Prop} (h : Ev2 P) (k : Ev2 Q) : Ev2 (fun m n => P m n ∧ Q m n) := by
  obtain ⟨N, h⟩ := h
  obtain ⟨M, k⟩ := k
  exact ⟨N + M, fun m n hm hn => ⟨h m n (by omega) (by omega), k m n (by omega) (by omega)⟩⟩
theorem Ev2.mono {P Q : Nat → Nat → Prop} (h : Ev2 P) (k : ∀ m n, P m n → Q m n) : Ev2 Q := by
  obtain ⟨N, h⟩ := h
  exact ⟨N, fun m n hm hn => k m n (h m n hm hn)⟩
theorem Ev2.of {P : Nat → Prop} (h : Ev P) : Ev2 (fun m n => P m ∧ P n) := by
  obtain ⟨N, h⟩ := h
  exact ⟨N, fun m n hm hn => ⟨h m hm, h n hn⟩⟩
def IsC (f : Nat → Rat) : Prop := ∀ ε : Rat, 0 < ε → Ev2 (fun m n => f m - f n < ε)
theorem IsC.both {f : Nat → Rat} (h : IsC f) {ε : Rat} (e : 0 < ε) : Ev2 (fun m n => f m - f n < ε ∧ f n - f m < ε) := by
  obtain ⟨N, h⟩ := h ε e
  exact ⟨N, fun m n hm hn => ⟨h m n hm hn, h n m hn hm⟩⟩
theorem half_pos {ε : Rat} (e : 0 < ε) : 0 < ε / 2 := by grind
theorem IsC.add {f g : Nat → Rat} (hf : IsC f) (hg : IsC g) : IsC (fun n => f n + g n) := fun ε e =>
  ((hf _ (half_pos e)).and (hg _ (half_pos e))).mono fun m n h => by grind
theorem IsC.neg {f : Nat → Rat} (hf : IsC f) : IsC (fun n => - f n) := fun ε e =>
  (hf.both e).mono fun m n h => by grind
theorem IsC.bound {f : Nat → Rat} (hf : IsC f) : ∃ B : Rat, 0 < B ∧ Ev (fun n => -B < f n ∧ f n < B) := by
  obtain ⟨N, h⟩ := hf.both (ε := 1) (by decide)
  by_cases c : 0 ≤ f N
  · exact ⟨f N + 1, by grind, N, fun n hn => by have := h n N hn (Nat.le_refl N); grind⟩
  · exact ⟨1 - f N, by grind, N, fun n hn => by have := h n N hn (Nat.le_refl N); grind⟩
theorem abs_mul_lt {a d B η : Rat} (h1 : -B < a) (h2 : a < B) (k1 : -η < d) (k2 : d < η) : a * d < B * η ∧ -(B * η) < a * d := by
  have e1 := Rat.mul_pos (show 0 < B - a by grind) (show 0 < η + d by grind)
  have e2 := Rat.mul_pos (show 0 < B + a by grind) (show 0 < η - d by grind)
  have e3 := Rat.mul_pos (show 0 < B - a by grind) (show 0 < η - d by grind)
  have e4 := Rat.mul_pos (show 0 < B + a by grind) (show 0 < η + d by grind)
  constructor <;> grind
theorem exists_eta {B ε : Rat} (hB : 0 < B) (e : 0 < ε) : ∃ η : Rat, 0 < η ∧ B * η = ε := ⟨ε / B, by
  have := Rat.mul_pos e (Rat.inv_pos.mpr hB)
  rw [Rat.div_def]
  exact this, by
  rw [Rat.mul_comm, Rat.div_mul_cancel (by grind)]⟩
theorem IsC.mul {f g : Nat → Rat} (hf : IsC f) (hg : IsC g) : IsC (fun n => f n * g n) := fun ε e => by
  obtain ⟨A, hA, ha⟩ := hf.bound
  obtain ⟨B, hB, hb⟩ := hg.bound
  obtain ⟨η, hη, he⟩ := exists_eta (B := A + B) (by grind) e
  refine ((hf.both hη).and ((hg.both hη).and ((Ev2.of ha).and (Ev2.of hb)))).mono fun m n h => ?_
  obtain ⟨h1, h2, ⟨h3, h4⟩, h5, h6⟩ := h
  have k1 := abs_mul_lt h3.1 h3.2 (show -η < g m - g n by grind) (by grind)
  have k2 := abs_mul_lt h6.1 h6.2 (show -η < f m - f n by grind) (by grind)
  show f m * g m - f n * g n < ε
  grind
structure Cs where
  f : Nat → Rat
  h : IsC f
def le (a b : Cs) : Prop := ∀ ε : Rat, 0 < ε → Ev (fun n => a.f n - b.f n < ε)
theorem le_refl (a : Cs) : le a a := fun ε e => ⟨0, fun n _ => by grind⟩
theorem le_trans {a b c : Cs} (h : le a b) (k : le b c) : le a c := fun ε e =>
  ((h _ (half_pos e)).and (k _ (half_pos e))).mono fun n h => by grind
def lt (a b : Cs) : Prop := ∃ δ : Rat, 0 < δ ∧ Ev (fun n => δ < b.f n - a.f n)
theorem lt_of_not_le {a b : Cs} (h : ¬ le b a) : lt a b := by
  apply Classical.byContradiction
  intro c
  apply h
  intro ε e
  apply Classical.byContradiction
  intro d
  apply c
  obtain ⟨N, hN⟩ := (a.h.both (show 0 < ε / 4 by grind)).and (b.h.both (show 0 < ε / 4 by grind))
  obtain ⟨n, hn, hh⟩ : ∃ n, N ≤ n ∧ ¬ b.f n - a.f n < ε := Classical.byContradiction fun q => d ⟨N, fun n hn => Classical.byContradiction fun r => q ⟨n, hn, r⟩⟩
  refine ⟨ε / 4, by grind, N, fun m hm => ?_⟩
  have := hN m n hm hn
  grind
theorem le_of_lt {a b : Cs} (h : lt a b) : le a b := fun ε e => by
  obtain ⟨δ, d, h⟩ := h
  exact h.mono fun n h => by grind
theorem not_le_of_lt {a b : Cs} (h : lt a b) : ¬ le b a := fun k => by
  obtain ⟨δ, d, h⟩ := h
  obtain ⟨n, hn⟩ := (h.and (k δ d)).any
  grind
theorem le_total (a b : Cs) : le a b ∨ le b a := by
  by_cases h : le a b
  · exact .inl h
  · exact .inr (le_of_lt (lt_of_not_le h))
instance st : Setoid Cs where
  r a b := le a b ∧ le b a
  iseqv := ⟨fun a => ⟨le_refl a, le_refl a⟩, fun h => ⟨h.2, h.1⟩, fun h k => ⟨le_trans h.1 k.1, le_trans k.2 h.2⟩⟩
theorem eqv_of {a b : Cs} (h : ∀ n, a.f n = b.f n) : a ≈ b := ⟨fun ε e => ⟨0, fun n _ => by have := h n; grind⟩, fun ε e => ⟨0, fun n _ => by have := h n; grind⟩⟩
def cadd (a b : Cs) : Cs := ⟨fun n => a.f n + b.f n, a.h.add b.h⟩
def cneg (a : Cs) : Cs := ⟨fun n => - a.f n, a.h.neg⟩
def cmul (a b : Cs) : Cs := ⟨fun n => a.f n * b.f n, a.h.mul b.h⟩
def crat (q : Rat) : Cs := ⟨fun _ => q, fun ε e => ⟨0, fun m n _ _ => by grind⟩⟩
theorem cadd_le {a b c d : Cs} (h : le a b) (k : le c d) : le (cadd a c) (cadd b d) := fun ε e =>
  ((h _ (half_pos e)).and (k _ (half_pos e))).mono fun n h => by simp only [cadd]; grind
theorem cneg_le {a b : Cs} (h : le a b) : le (cneg b) (cneg a) := fun ε e => (h ε e).mono fun n h => by simp only [cneg]; grind
theorem near {a b : Cs} (h : a ≈ b) {ε : Rat} (e : 0 < ε) : Ev (fun n => -ε < a.f n - b.f n ∧ a.f n - b.f n < ε) :=
  ((h.1 ε e).and (h.2 ε e)).mono fun n h => by grind
theorem cmul_le {a b c d : Cs} (h : a ≈ b) (k : c ≈ d) : le (cmul a c) (cmul b d) := fun ε e => by
  obtain ⟨A, hA, ha⟩ := a.h.bound
  obtain ⟨B, hB, hb⟩ := d.h.bound
  obtain ⟨η, hη, he⟩ := exists_eta (B := A + B) (by grind) e
  refine ((near h hη).and ((near k hη).and (ha.and hb))).mono fun n h => ?_
  obtain ⟨h1, h2, h3, h4⟩ := h
  have k1 := abs_mul_lt h3.1 h3.2 h2.1 h2.2
  have k2 := abs_mul_lt h4.1 h4.2 h1.1 h1.2
  show a.f n * c.f n - b.f n * d.f n < ε
  grind
def Rl : Type := Quotient st
def mk (a : Cs) : Rl := Quotient.mk st a
theorem mk_eq {a b : Cs} (h : ∀ n, a.f n = b.f n) : mk a = mk b := Quotient.sound (eqv_of h)
def add : Rl → Rl → Rl := Quotient.lift₂ (fun a b => mk (cadd a b)) fun _ _ _ _ h k => Quotient.sound ⟨cadd_le h.1 k.1, cadd_le h.2 k.2⟩
def neg : Rl → Rl := Quotient.lift (fun a => mk (cneg a)) fun _ _ h => Quotient.sound ⟨cneg_le h.2, cneg_le h.1⟩
def mul : Rl → Rl → Rl := Quotient.lift₂ (fun a b => mk (cmul a b)) fun _ _ _ _ h k => Quotient.sound ⟨cmul_le h k, cmul_le ⟨h.2, h.1⟩ ⟨k.2, k.1⟩⟩
def rat (q : Rat) : Rl := mk (crat q)
def rle : Rl → Rl → Prop := Quotient.lift₂ le fun _ _ _ _ h k => propext ⟨fun q => le_trans h.2 (le_trans q k.1), fun q => le_trans h.1 (le_trans q k.2)⟩
instance iAdd : Add Rl := ⟨add⟩
instance iMul : Mul Rl := ⟨mul⟩
instance iNeg : Neg Rl := ⟨neg⟩
instance iSub : Sub Rl := ⟨fun a b => add a (neg b)⟩
instance iLE : LE Rl := ⟨rle⟩
instance iLT : LT Rl := ⟨fun a b => a ≤ b ∧ ¬ b ≤ a⟩
instance iNC : NatCast Rl := ⟨fun n => rat (n : Rat)⟩
instance iIC : IntCast Rl := ⟨fun n => rat (n : Rat)⟩
instance iON (n : Nat) : OfNat Rl n := ⟨rat (n : Rat)⟩
instance iSN : SMul Nat Rl := ⟨fun n a => rat (n : Rat) * a⟩
instance iSI : SMul Int Rl := ⟨fun n a => rat (n : Rat) * a⟩
def npow (a : Rl) : Nat → Rl
  | 0 => 1
  | n + 1 => npow a n * a
instance iPw : HPow Rl Nat Rl := ⟨npow⟩
theorem rep (x : Rl) : ∃ a, x = mk a := Quotient.ind (motive := fun x => ∃ a, x = mk a) (fun a => ⟨a, rfl⟩) x
theorem z0 : ((0 : Nat) : Rat) = 0 := rfl
theorem z1 : ((1 : Nat) : Rat) = 1 := rfl
theorem radd_assoc (x y z : Rl) : x + y + z = x + (y + z) := by
  obtain ⟨a, rfl⟩ := rep x; obtain ⟨b, rfl⟩ := rep y; obtain ⟨c, rfl⟩ := rep z
  exact mk_eq fun n => Rat.add_assoc _ _ _
theorem radd_comm (x y : Rl) : x + y = y + x := by
  obtain ⟨a, rfl⟩ := rep x; obtain ⟨b, rfl⟩ := rep y
  exact mk_eq fun n => Rat.add_comm _ _
theorem radd_zero (x : Rl) : x + 0 = x := by
  obtain ⟨a, rfl⟩ := rep x
  exact mk_eq (a := cadd a (crat ((0 : Nat) : Rat))) (b := a) fun n => by simp only [cadd, crat, z0]; grind
theorem rneg_add (x : Rl) : -x + x = 0 := by
  obtain ⟨a, rfl⟩ := rep x
  exact mk_eq (a := cadd (cneg a) a) (b := crat ((0 : Nat) : Rat)) fun n => by simp only [cadd, cneg, crat, z0]; grind
theorem rmul_assoc (x y z : Rl) : x * y * z = x * (y * z) := by
  obtain ⟨a, rfl⟩ := rep x; obtain ⟨b, rfl⟩ := rep y; obtain ⟨c, rfl⟩ := rep z
  exact mk_eq fun n => Rat.mul_assoc _ _ _
theorem rmul_comm (x y : Rl) : x * y = y * x := by
  obtain ⟨a, rfl⟩ := rep x; obtain ⟨b, rfl⟩ := rep y
  exact mk_eq fun n => Rat.mul_comm _ _
theorem rmul_one (x : Rl) : x * 1 = x := by
  obtain ⟨a, rfl⟩ := rep x
  exact mk_eq (a := cmul a (crat ((1 : Nat) : Rat))) (b := a) fun n => by simp only [cmul, crat, z1]; grind
theorem rmul_zero (x : Rl) : x * 0 = 0 := by
  obtain ⟨a, rfl⟩ := rep x
  exact mk_eq (a := cmul a (crat ((0 : Nat) : Rat))) (b := crat ((0 : Nat) : Rat)) fun n => by simp only [cmul, crat, z0]; grind
theorem rmul_add (x y z : Rl) : x * (y + z) = x * y + x * z := by
  obtain ⟨a, rfl⟩ := rep x; obtain ⟨b, rfl⟩ := rep y; obtain ⟨c, rfl⟩ := rep z
  exact mk_eq fun n => Rat.mul_add _ _ _
theorem rat_add (p q : Rat) : rat (p + q) = rat p + rat q := mk_eq fun _ => rfl
theorem rat_mul (p q : Rat) : rat (p * q) = rat p * rat q := mk_eq fun _ => rfl
theorem rat_neg (p : Rat) : rat (- p) = - rat p := mk_eq fun _ => rfl
theorem rat_le {p q : Rat} : rat p ≤ rat q ↔ p ≤ q := by
  constructor
  · intro h
    apply Classical.byContradiction
    intro c
    obtain ⟨n, hn⟩ := (show le (crat p) (crat q) from h) (p - q) (by grind) |>.any
    simp only [crat] at hn
    grind
  · intro h ε e
    exact ⟨0, fun n _ => by simp only [crat]; grind⟩
@[reducible] def ringRl := { Dyadic.instCommRing with
  toAdd := iAdd
  toMul := iMul
  toNeg := iNeg
  toSub := iSub
  natCast := iNC
  intCast := iIC
  ofNat := iON
  nsmul := iSN
  zsmul := iSI
  npow := iPw
  add_zero := radd_zero
  add_comm := radd_comm
  add_assoc := radd_assoc
  mul_assoc := rmul_assoc
  mul_one := rmul_one
  one_mul := fun a => by rw [rmul_comm]; exact rmul_one a
  left_distrib := rmul_add
  right_distrib := fun a b c => by rw [rmul_comm, rmul_add, rmul_comm c, rmul_comm c]
  zero_mul := fun a => by rw [rmul_comm]; exact rmul_zero a
  mul_zero := rmul_zero
  pow_zero := fun a => rfl
  pow_succ := fun a n => rfl
  ofNat_succ := fun n => by
    show rat ((n + 1 : Nat) : Rat) = rat (n : Rat) + rat ((1 : Nat) : Rat)
    rw [← rat_add]
    congr 1
    simp
  ofNat_eq_natCast := fun n => rfl
  nsmul_eq_natCast_mul := fun n a => rfl
  neg_add_cancel := rneg_add
  sub_eq_add_neg := fun a b => rfl
  neg_zsmul := fun i a => by
    show rat ((-i : Int) : Rat) * a = - (rat (i : Rat) * a)
    obtain ⟨a, rfl⟩ := rep a
    exact mk_eq (a := cmul (crat ((-i : Int) : Rat)) a) (b := cneg (cmul (crat (i : Rat)) a)) fun n => by
      show ((-i : Int) : Rat) * a.f n = - ((i : Rat) * a.f n)
      simp [Rat.intCast_neg, Rat.neg_mul]
  zsmul_natCast_eq_nsmul := fun n a => rfl
  intCast_ofNat := fun n => rfl
  intCast_neg := fun i => by
    show rat ((-i : Int) : Rat) = - rat (i : Rat)
    rw [← rat_neg]
    congr 1
  mul_comm := rmul_comm }
attribute [instance] ringRl
theorem rle_refl (x : Rl) : x ≤ x := by
  obtain ⟨a, rfl⟩ := rep x
  exact le_refl a
theorem rle_trans (x y z : Rl) : x ≤ y → y ≤ z → x ≤ z := by
  obtain ⟨a, rfl⟩ := rep x; obtain ⟨b, rfl⟩ := rep y; obtain ⟨c, rfl⟩ := rep z
  exact le_trans
theorem rle_antisymm (x y : Rl) : x ≤ y → y ≤ x → x = y := by
  obtain ⟨a, rfl⟩ := rep x; obtain ⟨b, rfl⟩ := rep y
  exact fun h k => Quotient.sound ⟨h, k⟩
theorem rle_total (x y : Rl) : x ≤ y ∨ y ≤ x := by
  obtain ⟨a, rfl⟩ := rep x; obtain ⟨b, rfl⟩ := rep y
  exact le_total a b
instance : Std.IsLinearOrder Rl where
  le_refl := rle_refl
  le_trans := rle_trans
  le_antisymm := rle_antisymm
  le_total := rle_total
instance : Std.LawfulOrderLT Rl := ⟨fun _ _ => Iff.rfl⟩
theorem radd_le (x y z : Rl) (h : x ≤ y) : x + z ≤ y + z := by
  revert h
  obtain ⟨a, rfl⟩ := rep x; obtain ⟨b, rfl⟩ := rep y; obtain ⟨c, rfl⟩ := rep z
  exact fun h => cadd_le h (le_refl c)
theorem mk_lt {a b : Cs} : mk a < mk b ↔ lt a b := ⟨fun h => lt_of_not_le h.2, fun h => ⟨le_of_lt h, not_le_of_lt h⟩⟩
theorem rmul_pos {x y : Rl} : 0 < x → 0 < y → 0 < x * y := by
  obtain ⟨a, rfl⟩ := rep x; obtain ⟨b, rfl⟩ := rep y
  intro h k
  obtain ⟨δ, d, h⟩ := mk_lt.mp h
  obtain ⟨η, e, k⟩ := mk_lt.mp k
  refine (mk_lt (a := crat ((0 : Nat) : Rat)) (b := cmul a b)).mpr ⟨δ * η, Rat.mul_pos d e, (h.and k).mono fun n h => ?_⟩
  obtain ⟨h1, h2⟩ := h
  simp only [crat, cmul] at h1 h2 ⊢
  have z : ((0 : Nat) : Rat) = 0 := rfl
  rw [z] at h1 h2 ⊢
  have := Rat.mul_pos (show 0 < a.f n - δ by grind) (show 0 < b.f n - η by grind)
  have := Rat.mul_pos d (show 0 < b.f n - η by grind)
  have := Rat.mul_pos e (show 0 < a.f n - δ by grind)
  grind
theorem le_sub {x y : Rl} : x ≤ y ↔ 0 ≤ y - x := by
  have e1 : x + -x = 0 := by grind
  have e2 : y + -x = y - x := by grind
  have e3 : 0 + x = x := by grind
  have e4 : y - x + x = y := by grind
  constructor
  · intro h
    have := radd_le _ _ (-x) h
    rw [e1, e2] at this
    exact this
  · intro h
    have := radd_le _ _ x h
    rw [e3, e4] at this
    exact this
theorem sub_le {x y : Rl} : y ≤ x ↔ y - x ≤ 0 := by
  have e1 : x + -x = 0 := by grind
  have e2 : y + -x = y - x := by grind
  have e3 : 0 + x = x := by grind
  have e4 : y - x + x = y := by grind
  constructor
  · intro h
    have := radd_le _ _ (-x) h
    rw [e1, e2] at this
    exact this
  · intro h
    have := radd_le _ _ x h
    rw [e3, e4] at this
    exact this
theorem sub_pos {x y : Rl} : x < y ↔ 0 < y - x := ⟨fun h => ⟨le_sub.mp h.1, fun k => h.2 (sub_le.mpr k)⟩, fun h => ⟨le_sub.mpr h.1, fun k => h.2 (sub_le.mp k)⟩⟩
set_option linter.defProp false in
@[reducible] def ordRl := { Dyadic.instOrderedRing with
  add_le_left_iff := fun {a b : Rl} c => ⟨fun h => radd_le a b c h, fun h => by
    have := radd_le _ _ (-c) h
    rw [show a + c + -c = a by grind, show b + c + -c = b by grind] at this
    exact this⟩
  zero_lt_one := (mk_lt (a := crat ((0 : Nat) : Rat)) (b := crat ((1 : Nat) : Rat))).mpr ⟨1 / 2, by grind, 0, fun n _ => by simp only [crat, z0, z1]; grind⟩
  mul_lt_mul_of_pos_left := fun {a b c : Rl} h k => by
    have := rmul_pos k (sub_pos.mp h)
    rw [sub_pos, show c * b - c * a = c * (b - a) by grind]
    exact this
  mul_lt_mul_of_pos_right := fun {a b c : Rl} h k => by
    have := rmul_pos k (sub_pos.mp h)
    rw [sub_pos, show b * c - a * c = c * (b - a) by grind]
    exact this }
attribute [instance] ordRl
end Go.Re
namespace Go.Re
theorem rat_lt {p q : Rat} : rat p < rat q ↔ p < q := by
  constructor
  · intro h
    have := h.2
    rw [rat_le] at this
    grind
  · intro h
    refine ⟨rat_le.mpr (by grind), ?_⟩
    rw [rat_le]
    grind
theorem rat_zero : rat 0 = 0 := rfl
theorem rat_one : rat 1 = 1 := rfl
theorem rat_sub (p q : Rat) : rat (p - q) = rat p - rat q := by rw [Rat.sub_eq_add_neg, rat_add, rat_neg]; grind
theorem rat_pos {p : Rat} : 0 < rat p ↔ 0 < p := rat_lt (p := 0)
theorem mk_near (c : Cs) {ε : Rat} (e : 0 < ε) : Ev (fun n => mk c - rat (c.f n) < rat ε ∧ rat (c.f n) - mk c < rat ε) := by
  obtain ⟨N, h⟩ := c.h.both (half_pos e)
  refine ⟨N, fun n hn => ⟨?_, ?_⟩⟩
  · refine (mk_lt (a := cadd c (cneg (crat (c.f n)))) (b := crat ε)).mpr ⟨ε / 4, by grind, N, fun m hm => ?_⟩
    have := h m n hm hn
    simp only [cadd, cneg, crat]
    grind
  · refine (mk_lt (a := cadd (crat (c.f n)) (cneg c)) (b := crat ε)).mpr ⟨ε / 4, by grind, N, fun m hm => ?_⟩
    have := h m n hm hn
    simp only [cadd, cneg, crat]
    grind
theorem dense (x : Rl) {ε : Rat} (e : 0 < ε) : ∃ q : Rat, x - rat q < rat ε ∧ rat q - x < rat ε := by
  obtain ⟨c, rfl⟩ := rep x
  obtain ⟨n, h⟩ := (mk_near c e).any
  exact ⟨c.f n, h⟩
theorem small {x : Rl} (h : 0 < x) : ∃ q : Rat, 0 < q ∧ rat q < x := by
  obtain ⟨c, rfl⟩ := rep x
  obtain ⟨δ, d, h⟩ := (mk_lt (a := crat ((0 : Nat) : Rat)) (b := c)).mp h
  refine ⟨δ / 2, by grind, (mk_lt (a := crat (δ / 2)) (b := c)).mpr ⟨δ / 2, by grind, h.mono fun n h => ?_⟩⟩
  simp only [crat, z0] at h ⊢
  grind
theorem le_of_small {x y : Rl} (h : ∀ ε : Rat, 0 < ε → x ≤ y + rat ε) : x ≤ y := by
  apply Classical.byContradiction
  intro c
  obtain ⟨q, q0, hq⟩ := small (x := x - y) (by grind)
  have := h q q0
  grind
theorem arch (x : Rl) : ∃ n : Nat, x < (n : Rl) := by
  obtain ⟨q, h, _⟩ := dense x (ε := 1) (by decide)
  refine ⟨(q.ceil + 1).toNat, ?_⟩
  have h1 : q ≤ (q.ceil : Rat) := Rat.le_ceil
  have h2 : ((q.ceil + 1 : Int) : Rat) ≤ (((q.ceil + 1).toNat : Nat) : Rat) := by
    have : (q.ceil + 1 : Int) ≤ (((q.ceil + 1).toNat : Nat) : Int) := Int.self_le_toNat _
    have := Rat.intCast_le_intCast.mpr this
    exact this
  have h3 : q + 1 ≤ (((q.ceil + 1).toNat : Nat) : Rat) := by
    have : ((q.ceil + 1 : Int) : Rat) = (q.ceil : Rat) + 1 := by simp
    grind
  have h4 := rat_le.mpr h3
  rw [rat_add] at h4
  have : rat (((q.ceil + 1).toNat : Nat) : Rat) = (((q.ceil + 1).toNat : Nat) : Rl) := rfl
  grind
def To (u : Nat → Rl) (L : Rl) : Prop := ∀ ε : Rat, 0 < ε → Ev (fun n => u n - L < rat ε ∧ L - u n < rat ε)
theorem inv_small {ε : Rat} (e : 0 < ε) : Ev (fun n => 1 / ((n : Rat) + 1) < ε) := by
  refine ⟨(1 / ε).ceil.toNat, fun n hn => ?_⟩
  have h1 : 1 / ε ≤ ((1 / ε).ceil : Rat) := Rat.le_ceil
  have h2 : (((1 / ε).ceil : Int) : Rat) ≤ ((n : Int) : Rat) := Rat.intCast_le_intCast.mpr (by have := Int.self_le_toNat (1 / ε).ceil; omega)
  have h3 : ((n : Int) : Rat) = (n : Rat) := rfl
  have h4 : 1 / ε < (n : Rat) + 1 := by grind
  have h5 : (0 : Rat) ≤ (n : Rat) := Rat.natCast_nonneg
  show 1 / ((n : Rat) + 1) < ε
  rw [Rat.div_lt_iff (by grind)]
  rw [Rat.div_lt_iff e] at h4
  grind
theorem complete (u : Nat → Rl) (h : ∀ ε : Rat, 0 < ε → Ev2 (fun m n => u m - u n < rat ε)) : ∃ L, To u L := by
  have hp : ∀ n : Nat, (0 : Rat) < 1 / ((n : Rat) + 1) := fun n => by
    have h5 : (0 : Rat) ≤ (n : Rat) := Rat.natCast_nonneg
    rw [Rat.div_def, Rat.one_mul]
    exact Rat.inv_pos.mpr (by grind)
  have hq : ∀ n : Nat, ∃ q : Rat, u n - rat q < rat (1 / ((n : Rat) + 1)) ∧ rat q - u n < rat (1 / ((n : Rat) + 1)) := fun n => dense (u n) (hp n)
  let q : Nat → Rat := fun n => Classical.choose (hq n)
  have hq2 : ∀ n, u n - rat (q n) < rat (1 / ((n : Rat) + 1)) ∧ rat (q n) - u n < rat (1 / ((n : Rat) + 1)) := fun n => Classical.choose_spec (hq n)
  have hev : ∀ ε : Rat, 0 < ε → Ev (fun n => u n - rat (q n) < rat ε ∧ rat (q n) - u n < rat ε) := fun ε e =>
    (inv_small e).mono fun n hn => by
      have := hq2 n
      have k := rat_lt.mpr hn
      grind
  have hC : IsC q := fun ε e => by
    refine ((h _ (show 0 < ε / 3 by grind)).and (Ev2.of (hev _ (show 0 < ε / 3 by grind)))).mono fun m n k => ?_
    obtain ⟨k1, k2, k3⟩ := k
    rw [← rat_lt, rat_sub]
    have : rat ε = rat (ε / 3) + rat (ε / 3) + rat (ε / 3) := by rw [← rat_add, ← rat_add]; congr 1; grind
    grind
  refine ⟨mk ⟨q, hC⟩, fun ε e => ?_⟩
  refine ((mk_near ⟨q, hC⟩ (half_pos e)).and (hev _ (half_pos e))).mono fun n k => ?_
  obtain ⟨k1, k2⟩ := k
  simp only at k1
  have : rat ε = rat (ε / 2) + rat (ε / 2) := by rw [← rat_add]; congr 1; grind
  grind
theorem To.le {u : Nat → Rl} {L x : Rl} (h : To u L) (k : Ev (fun n => u n ≤ x)) : L ≤ x := le_of_small fun ε e => by
  obtain ⟨n, h1, h2⟩ := ((h ε e).and k).any
  grind
theorem To.ge {u : Nat → Rl} {L x : Rl} (h : To u L) (k : Ev (fun n => x ≤ u n)) : x ≤ L := le_of_small fun ε e => by
  obtain ⟨n, h1, h2⟩ := ((h ε e).and k).any
  grind
theorem To.uniq {u : Nat → Rl} {L M : Rl} (h : To u L) (k : To u M) : L = M := by
  have h1 : L ≤ M := le_of_small fun ε e => by
    obtain ⟨n, h1, h2⟩ := ((h _ (half_pos e)).and (k _ (half_pos e))).any
    have : rat ε = rat (ε / 2) + rat (ε / 2) := by rw [← rat_add]; congr 1; grind
    grind
  have h2 : M ≤ L := le_of_small fun ε e => by
    obtain ⟨n, h1, h2⟩ := ((h _ (half_pos e)).and (k _ (half_pos e))).any
    have : rat ε = rat (ε / 2) + rat (ε / 2) := by rw [← rat_add]; congr 1; grind
    grind
  grind
theorem To.add {u v : Nat → Rl} {L M : Rl} (h : To u L) (k : To v M) : To (fun n => u n + v n) (L + M) := fun ε e =>
  ((h _ (half_pos e)).and (k _ (half_pos e))).mono fun n q => by
    have : rat ε = rat (ε / 2) + rat (ε / 2) := by rw [← rat_add]; congr 1; grind
    grind
theorem To.neg {u : Nat → Rl} {L : Rl} (h : To u L) : To (fun n => - u n) (- L) := fun ε e =>
  (h ε e).mono fun n q => by grind
theorem To.const (x : Rl) : To (fun _ => x) x := fun ε e => ⟨0, fun n _ => by
  have := rat_pos.mpr e
  grind⟩
theorem mul_lt_abs {a d B η : Rl} (h1 : -B < a) (h2 : a < B) (k1 : -η < d) (k2 : d < η) : a * d < B * η ∧ -(B * η) < a * d := by
  have e1 := rmul_pos (show 0 < B - a by grind) (show 0 < η + d by grind)
  have e2 := rmul_pos (show 0 < B + a by grind) (show 0 < η - d by grind)
  have e3 := rmul_pos (show 0 < B - a by grind) (show 0 < η - d by grind)
  have e4 := rmul_pos (show 0 < B + a by grind) (show 0 < η + d by grind)
  constructor <;> grind
theorem To.zero_mul {u v : Nat → Rl} (h : To u 0) {B : Nat} (k : Ev (fun n => -(B : Rl) < v n ∧ v n < (B : Rl))) : To (fun n => v n * u n) 0 := fun ε e => by
  obtain ⟨η, hη, he⟩ := exists_eta (B := (B : Rat) + 1) (by have : (0 : Rat) ≤ (B : Rat) := Rat.natCast_nonneg; grind) e
  refine ((h η hη).and k).mono fun n q => ?_
  have hB : (B : Rl) = rat (B : Rat) := rfl
  have := mul_lt_abs (a := v n) (d := u n) (B := (B : Rl)) (η := rat η) (by grind) (by grind) (by grind) (by grind)
  rw [hB, ← rat_mul] at this
  have h2 : rat ((B : Rat) * η) < rat ε := rat_lt.mpr (by grind)
  grind
theorem To.mul {u v : Nat → Rl} {L M : Rl} (h : To u L) (k : To v M) : To (fun n => u n * v n) (L * M) := by
  have h0 : To (fun n => u n - L) 0 := fun ε e => (h ε e).mono fun n q => by grind
  have k0 : To (fun n => v n - M) 0 := fun ε e => (k ε e).mono fun n q => by grind
  obtain ⟨A, hA⟩ := arch (M + 1)
  obtain ⟨A', hA'⟩ := arch (1 - M)
  obtain ⟨B, hB⟩ := arch L
  obtain ⟨B', hB'⟩ := arch (-L)
  have cadd : ∀ a b : Nat, ((a + b : Nat) : Rl) = (a : Rl) + (b : Rl) := fun a b => by
    show rat ((a + b : Nat) : Rat) = rat (a : Rat) + rat (b : Rat)
    rw [← rat_add]
    congr 1
    simp
  have cnn : ∀ a : Nat, (0 : Rl) ≤ (a : Rl) := fun a => (rat_le (p := 0)).mpr Rat.natCast_nonneg
  have e1 := h0.zero_mul (v := v) (B := A + A') ((k 1 (by decide)).mono fun n q => by
    have := cadd A A'
    have := cnn A
    have := cnn A'
    have := rat_one
    grind)
  have e2 := k0.zero_mul (v := fun _ => L) (B := B + B') ⟨0, fun n _ => by
    have := cadd B B'
    have := cnn B
    have := cnn B'
    grind⟩
  have e3 := (e1.add e2).add (To.const (L * M))
  intro ε e
  refine (e3 ε e).mono fun n q => ?_
  grind
def hf (x : Rl) : Rl := x * rat (1 / 2)
theorem hf_two (x : Rl) : hf x + hf x = x := by
  have : rat (1 / 2) + rat (1 / 2) = 1 := by rw [← rat_add, ← rat_one]; congr 1; grind
  unfold hf
  grind
noncomputable def bis (P : Rl → Prop) (p : Rl × Rl) : Nat → Rl × Rl
  | 0 => p
  | n + 1 => open Classical in if P (hf ((bis P p n).1 + (bis P p n).2)) then (hf ((bis P p n).1 + (bis P p n).2), (bis P p n).2) else ((bis P p n).1, hf ((bis P p n).1 + (bis P p n).2))
theorem bis_all (P : Rl → Prop) {a b : Rl} (hab : a ≤ b) (ha : P a) (hb : ¬ P b) : ∀ n, P (bis P (a, b) n).1 ∧ ¬ P (bis P (a, b) n).2 ∧ (bis P (a, b) n).1 ≤ (bis P (a, b) n).2 ∧ (2 : Rl) ^ n * ((bis P (a, b) n).2 - (bis P (a, b) n).1) = b - a
  | 0 => ⟨ha, hb, hab, by simp only [bis]; grind⟩
  | n + 1 => by
    obtain ⟨h1, h2, h3, h4⟩ := bis_all P hab ha hb n
    have hh := hf_two ((bis P (a, b) n).1 + (bis P (a, b) n).2)
    simp only [bis]
    split
    · rename_i h
      refine ⟨h, h2, by grind, ?_⟩
      rw [← h4]
      grind
    · rename_i h
      refine ⟨h1, h, by grind, ?_⟩
      rw [← h4]
      grind
theorem bis_step (P : Rl → Prop) {a b : Rl} (hab : a ≤ b) (ha : P a) (hb : ¬ P b) (n : Nat) : ∀ k, (bis P (a, b) n).1 ≤ (bis P (a, b) (n + k)).1 ∧ (bis P (a, b) (n + k)).2 ≤ (bis P (a, b) n).2
  | 0 => ⟨by grind, by grind⟩
  | k + 1 => by
    have h := bis_step P hab ha hb n k
    obtain ⟨h1, h2, h3, h4⟩ := bis_all P hab ha hb (n + k)
    have hh := hf_two ((bis P (a, b) (n + k)).1 + (bis P (a, b) (n + k)).2)
    rw [show n + (k + 1) = (n + k) + 1 from rfl]
    simp only [bis]
    split <;> constructor <;> grind
theorem two_pow (n : Nat) : (n : Rl) ≤ 2 ^ n ∧ (1 : Rl) ≤ 2 ^ n := by
  induction n with
  | zero => exact ⟨by have : ((0 : Nat) : Rl) = 0 := rfl; grind, by grind⟩
  | succ n ih =>
    have : ((n + 1 : Nat) : Rl) = (n : Rl) + 1 := by
      show rat ((n + 1 : Nat) : Rat) = rat (n : Rat) + rat 1
      rw [← rat_add]
      congr 1
      simp
    have : (2 : Rl) ^ (n + 1) = 2 ^ n * 2 := by grind
    constructor <;> grind
theorem mul_mono {a b c d : Rl} (h : a ≤ b) (k : c ≤ d) (hc : 0 ≤ c) (hb : 0 ≤ b) : a * c ≤ b * d := by
  have h1 : 0 ≤ (b - a) * c := by
    rcases Std.le_total (a := a) (b := b) with _ | _
    · by_cases e1 : b - a = 0
      · rw [e1]; grind
      · by_cases e2 : c = 0
        · rw [e2]; grind
        · have := rmul_pos (show 0 < b - a by grind) (show 0 < c by grind)
          grind
    · have : b - a = 0 := by grind
      rw [this]; grind
  have h2 : 0 ≤ b * (d - c) := by
    by_cases e1 : b = 0
    · rw [e1]; grind
    · by_cases e2 : d - c = 0
      · rw [e2]; grind
      · have := rmul_pos (show 0 < b by grind) (show 0 < d - c by grind)
        grind
  grind
theorem mul_nonneg {a b : Rl} (h : 0 ≤ a) (k : 0 ≤ b) : 0 ≤ a * b := by
  have := mul_mono h k (by grind) h
  grind
theorem change (P : Rl → Prop) {a b : Rl} (hab : a ≤ b) (ha : P a) (hb : ¬ P b) : ∃ c, a ≤ c ∧ c ≤ b ∧ ∀ ε : Rat, 0 < ε → ∃ x y, a ≤ x ∧ x ≤ c ∧ c ≤ y ∧ y ≤ b ∧ P x ∧ ¬ P y ∧ y - x < rat ε := by
  have hsm : ∀ ε : Rat, 0 < ε → Ev (fun n => (bis P (a, b) n).2 - (bis P (a, b) n).1 < rat ε) := fun ε e => by
    obtain ⟨A, hA⟩ := arch ((b - a) * rat (1 / ε))
    refine ⟨A, fun n hn => ?_⟩
    obtain ⟨h1, h2, h3, h4⟩ := bis_all P hab ha hb n
    have t := two_pow n
    have hAn : (A : Rl) ≤ (n : Rl) := rat_le.mpr (Rat.natCast_le_natCast.mpr hn)
    have e1 : rat (1 / ε) * rat ε = 1 := by rw [← rat_mul, ← rat_one]; congr 1; rw [Rat.div_mul_cancel (by grind)]
    have e2 : (0 : Rl) < rat (1 / ε) := rat_pos.mpr (by rw [Rat.div_def, Rat.one_mul]; exact Rat.inv_pos.mpr e)
    have e3 : (0 : Rl) < rat ε := rat_pos.mpr e
    apply Classical.byContradiction
    intro c
    have k1 : rat ε ≤ (bis P (a, b) n).2 - (bis P (a, b) n).1 := by grind
    have k2 := mul_mono (a := (2 : Rl) ^ n) (b := 2 ^ n) (by grind) k1 (by grind) (by grind)
    rw [h4] at k2
    have k3 := mul_mono k2 (show rat (1 / ε) ≤ rat (1 / ε) by exact rle_refl _) (Std.le_of_lt e2) (by grind)
    rw [rmul_assoc, rmul_comm (rat ε), e1, rmul_one] at k3
    have k4 : (A : Rl) ≤ 2 ^ n := rle_trans _ _ _ hAn t.1
    clear h4 k2 k1 h3
    grind
  obtain ⟨L, hL⟩ := complete (fun n => (bis P (a, b) n).1) fun ε e => by
    obtain ⟨N, hN⟩ := hsm ε e
    refine ⟨N, fun m n hm hn => ?_⟩
    obtain ⟨k, rfl⟩ := Nat.exists_eq_add_of_le hm
    obtain ⟨l, rfl⟩ := Nat.exists_eq_add_of_le hn
    have s1 := bis_step P hab ha hb N k
    have s2 := bis_step P hab ha hb N l
    have := bis_all P hab ha hb (N + k)
    have := hN N (Nat.le_refl N)
    show (bis P (a, b) (N + k)).1 - (bis P (a, b) (N + l)).1 < rat ε
    grind
  have hin : ∀ n, (bis P (a, b) n).1 ≤ L ∧ L ≤ (bis P (a, b) n).2 := fun n => by
    constructor
    · refine hL.ge ⟨n, fun m hm => ?_⟩
      obtain ⟨k, rfl⟩ := Nat.exists_eq_add_of_le hm
      exact (bis_step P hab ha hb n k).1
    · refine hL.le ⟨n, fun m hm => ?_⟩
      obtain ⟨k, rfl⟩ := Nat.exists_eq_add_of_le hm
      have := bis_step P hab ha hb n k
      have := bis_all P hab ha hb (n + k)
      grind
  refine ⟨L, (hin 0).1, (hin 0).2, fun ε e => ?_⟩
  obtain ⟨n, hn⟩ := (hsm ε e).any
  have s := bis_step P hab ha hb 0 n
  have q := bis_all P hab ha hb n
  rw [Nat.zero_add] at s
  exact ⟨(bis P (a, b) n).1, (bis P (a, b) n).2, s.1, (hin n).1, (hin n).2, s.2, q.1, q.2.1, hn⟩
theorem between (f : Rl → Rl) {a b v : Rl} (hab : a ≤ b) (ha : f a ≤ v) (hb : v ≤ f b) (hc : ∀ ε : Rat, 0 < ε → ∃ δ : Rat, 0 < δ ∧ ∀ x y, a ≤ x → x ≤ y → y ≤ b → y - x < rat δ → f x - f y < rat ε ∧ f y - f x < rat ε) : ∃ c, a ≤ c ∧ c ≤ b ∧ f c = v := by
  by_cases e : f b ≤ v
  · exact ⟨b, hab, by grind, by grind⟩
  obtain ⟨c, c1, c2, h⟩ := change (fun x => f x ≤ v) hab ha e
  refine ⟨c, c1, c2, ?_⟩
  have h1 : f c ≤ v := le_of_small fun ε e => by
    obtain ⟨δ, d, k⟩ := hc ε e
    obtain ⟨x, y, x1, x2, y1, y2, p1, p2, p3⟩ := h δ d
    have := k x c x1 x2 c2 (by grind)
    grind
  have h2 : v ≤ f c := le_of_small fun ε e => by
    obtain ⟨δ, d, k⟩ := hc ε e
    obtain ⟨x, y, x1, x2, y1, y2, p1, p2, p3⟩ := h δ d
    have := k c y c1 y1 y2 (by grind)
    grind
  grind
theorem exists_part {ε : Rat} (e : 0 < ε) (B : Nat) : ∃ δ : Rat, 0 < δ ∧ (B : Rl) * rat δ < rat ε := by
  obtain ⟨η, hη, he⟩ := exists_eta (B := (B : Rat) + 1) (by have : (0 : Rat) ≤ (B : Rat) := Rat.natCast_nonneg; grind) e
  refine ⟨η, hη, ?_⟩
  show rat (B : Rat) * rat η < rat ε
  rw [← rat_mul]
  exact rat_lt.mpr (by grind)
theorem exists_root {a : Rl} (h : 0 ≤ a) : ∃ r, 0 ≤ r ∧ r * r = a := by
  obtain ⟨N, hN⟩ := arch (a + 1)
  obtain ⟨c, c1, c2, c3⟩ := between (fun x => x * x) (a := 0) (b := a + 1) (v := a) (by grind) (by grind) (by
    have := mul_nonneg h h
    grind) fun ε e => by
      obtain ⟨δ, d, k⟩ := exists_part e (N + N)
      have hN2 : ((N + N : Nat) : Rl) = (N : Rl) + N := by
        show rat ((N + N : Nat) : Rat) = rat (N : Rat) + rat (N : Rat)
        rw [← rat_add]; congr 1; simp
      refine ⟨δ, d, fun x y x0 xy y1 hd => ?_⟩
      have k1 := mul_mono (a := x + y) (b := (N : Rl) + N) (c := y - x) (d := rat δ) (by grind) (by grind) (by grind) (by grind)
      have k2 := mul_nonneg (a := x + y) (b := y - x) (by grind) (by grind)
      have := rat_pos.mpr e
      rw [hN2] at k
      constructor <;> grind
  exact ⟨c, c1, c3⟩
theorem exists_inv {a : Rl} (h : 0 < a) : ∃ r, 0 < r ∧ a * r = 1 := by
  obtain ⟨q, q0, hq⟩ := small h
  obtain ⟨N, hN⟩ := arch a
  have hi : (0 : Rl) < rat (1 / q) := rat_pos.mpr (by rw [Rat.div_def, Rat.one_mul]; exact Rat.inv_pos.mpr q0)
  have hq1 : rat q * rat (1 / q) = 1 := by rw [← rat_mul, ← rat_one]; congr 1; rw [Rat.mul_comm, Rat.div_mul_cancel (by grind)]
  obtain ⟨c, c1, c2, c3⟩ := between (fun x => a * x) (a := 0) (b := rat (1 / q)) (v := 1) (by grind) (by grind) (by
    have := mul_mono (a := rat q) (b := a) (c := rat (1 / q)) (d := rat (1 / q)) (by grind) (by grind) (by grind) (by grind)
    grind) fun ε e => by
      obtain ⟨δ, d, k⟩ := exists_part e N
      refine ⟨δ, d, fun x y x0 xy y1 hd => ?_⟩
      have k1 := mul_mono (a := a) (b := N) (c := y - x) (d := rat δ) (by grind) (by grind) (by grind) (by grind)
      have k2 := mul_nonneg (a := a) (b := y - x) (by grind) (by grind)
      have := rat_pos.mpr e
      constructor <;> grind
  refine ⟨c, ?_, c3⟩
  by_cases e : c = 0
  · subst e
    have := ordRl.zero_lt_one
    grind
  · grind
end Go.Re
namespace Go.Re
def ri (n : Int) : Rl := rat (n : Rat)
theorem ri_add (a b : Int) : ri (a + b) = ri a + ri b := by unfold ri; rw [Rat.intCast_add, rat_add]
theorem ri_neg (a : Int) : ri (-a) = - ri a := by unfold ri; rw [Rat.intCast_neg, rat_neg]
theorem ri_sub (a b : Int) : ri (a - b) = ri a - ri b := by unfold ri; rw [Rat.intCast_sub, rat_sub]
theorem ri_mul (a b : Int) : ri (a * b) = ri a * ri b := by unfold ri; rw [Rat.intCast_mul, rat_mul]
theorem ri_le {a b : Int} : ri a ≤ ri b ↔ a ≤ b := by unfold ri; rw [rat_le, Rat.intCast_le_intCast]
theorem ri_lt {a b : Int} : ri a < ri b ↔ a < b := by unfold ri; rw [rat_lt, Rat.intCast_lt_intCast]
theorem ri_zero : ri 0 = 0 := rfl
theorem ri_one : ri 1 = 1 := rfl
theorem ri_two : ri 2 = 2 := rfl
theorem ri_nat (n : Nat) : ri (n : Int) = (n : Rl) := rfl
theorem ri_pow (n : Nat) : ri (2 ^ n) = (2 : Rl) ^ n := by
  induction n with
  | zero => exact (by have : (2 : Rl) ^ 0 = 1 := by grind
                      rw [this]; rfl)
  | succ n ih =>
    rw [Int.pow_succ, ri_mul, ih, ri_two]
    grind
theorem zero_lt_one : (0 : Rl) < 1 := ordRl.zero_lt_one
theorem fl_ex (M : Int) (x : Rl) : ∀ N : Nat, ri M ≤ x → x < ri (M + N) → ∃ m : Int, ri m ≤ x ∧ x < ri m + 1
  | 0, h, k => by
    rw [show M + ((0 : Nat) : Int) = M by omega] at k
    grind
  | N + 1, h, k => by
    by_cases c : x < ri (M + N)
    · exact fl_ex M x N h c
    · refine ⟨M + N, by grind, ?_⟩
      rw [← ri_one, ← ri_add, show M + (N : Int) + 1 = M + ((N + 1 : Nat) : Int) by omega]
      exact k
theorem floor_ex (x : Rl) : ∃ m : Int, ri m ≤ x ∧ x < ri m + 1 := by
  obtain ⟨a, ha⟩ := arch x
  obtain ⟨b, hb⟩ := arch (-x)
  rw [← ri_nat] at ha hb
  refine fl_ex (-(b : Int)) x (a + b) ?_ ?_
  · rw [ri_neg]
    grind
  · rw [show -(b : Int) + ((a + b : Nat) : Int) = a by omega]
    exact ha
noncomputable def flo (x : Rl) : Int := Classical.choose (floor_ex x)
theorem flo_le (x : Rl) : ri (flo x) ≤ x ∧ x < ri (flo x) + 1 := Classical.choose_spec (floor_ex x)
theorem flo_eq {x : Rl} {m : Int} (h : ri m ≤ x) (k : x < ri m + 1) : flo x = m := by
  have f := flo_le x
  have h1 : ri (flo x) < ri (m + 1) := by rw [ri_add, ri_one]; grind
  have h2 : ri m < ri (flo x + 1) := by rw [ri_add, ri_one]; grind
  rw [ri_lt] at h1 h2
  omega
theorem half_circle {c s : Rl} (h : c * c + s * s = 1) (hc : 0 ≤ c) (hs : 0 < s) : ∃ p : Rl × Rl, 0 ≤ p.1 ∧ 0 < p.2 ∧ p.1 * p.1 + p.2 * p.2 = 1 ∧ p.1 * p.1 - p.2 * p.2 = c ∧ 2 * (p.1 * p.2) = s ∧ 4 * p.2 ≤ 3 * s := by
  have hh := hf_two (1 + c)
  have z := zero_lt_one
  obtain ⟨a, a0, ha⟩ := exists_root (a := hf (1 + c)) (by grind)
  have a1 : 2 < 3 * a := by
    apply Classical.byContradiction
    intro k
    have := mul_mono (a := 3 * a) (b := 2) (c := 3 * a) (d := 2) (by grind) (by grind) (by grind) (by grind)
    grind
  obtain ⟨r, r0, hr⟩ := exists_inv (a := 2 * a) (by grind)
  have s1 : 2 * (a * (s * r)) = s := by
    have : 2 * (a * (s * r)) = s * (2 * a * r) := by grind
    rw [this, hr]
    grind
  have sp : 0 < s * r := rmul_pos hs r0
  have s2 : s * r * (s * r) * (4 * (a * a)) = s * s := by
    have : s * r * (s * r) * (4 * (a * a)) = s * s * (2 * a * r) * (2 * a * r) := by grind
    rw [this, hr]
    grind
  have s3 : (1 + c) * (2 * (s * r * (s * r)) - (1 - c)) = 0 := by grind
  have s4 : 2 * (s * r * (s * r)) - (1 - c) = 0 := by
    obtain ⟨i, i0, hi⟩ := exists_inv (a := 1 + c) (by grind)
    have : 2 * (s * r * (s * r)) - (1 - c) = i * ((1 + c) * (2 * (s * r * (s * r)) - (1 - c))) := by
      have : i * ((1 + c) * (2 * (s * r * (s * r)) - (1 - c))) = ((1 + c) * i) * (2 * (s * r * (s * r)) - (1 - c)) := by grind
      rw [this, hi]
      grind
    rw [this, s3]
    grind
  refine ⟨(a, s * r), a0, sp, by simp only; grind, by simp only; grind, s1, ?_⟩
  simp only
  have := rmul_pos sp (show 0 < 3 * a - 2 by grind)
  grind
structure Qp where
  c : Rl
  s : Rl
  c0 : 0 ≤ c
  s0 : 0 < s
  n : c * c + s * s = 1
theorem Qp.half (p : Qp) : ∃ q : Qp, q.c * q.c - q.s * q.s = p.c ∧ 2 * (q.c * q.s) = p.s ∧ 4 * q.s ≤ 3 * p.s := by
  obtain ⟨q, h1, h2, h3, h4⟩ := half_circle p.n p.c0 p.s0
  exact ⟨⟨q.1, q.2, h1, h2, h3⟩, h4⟩
noncomputable def qp : Nat → Qp
  | 0 => ⟨0, 1, by exact rle_refl _, zero_lt_one, by grind⟩
  | k + 1 => Classical.choose (qp k).half
theorem qp_succ (k : Nat) : (qp (k + 1)).c * (qp (k + 1)).c - (qp (k + 1)).s * (qp (k + 1)).s = (qp k).c ∧ 2 * ((qp (k + 1)).c * (qp (k + 1)).s) = (qp k).s ∧ 4 * (qp (k + 1)).s ≤ 3 * (qp k).s := Classical.choose_spec (qp k).half
noncomputable def qc (k : Nat) : Rl := (qp k).c
noncomputable def qs (k : Nat) : Rl := (qp k).s
theorem q_zero : qc 0 = 0 ∧ qs 0 = 1 := ⟨rfl, rfl⟩
theorem q_all (k : Nat) : 0 ≤ qc k ∧ 0 < qs k ∧ qc k * qc k + qs k * qs k = 1 := ⟨(qp k).c0, (qp k).s0, (qp k).n⟩
theorem q_succ (k : Nat) : qc (k + 1) * qc (k + 1) - qs (k + 1) * qs (k + 1) = qc k ∧ 2 * (qc (k + 1) * qs (k + 1)) = qs k ∧ 4 * qs (k + 1) ≤ 3 * qs k := qp_succ k
theorem sq_pos (x : Rl) : 0 ≤ x * x := by
  by_cases h : 0 ≤ x
  · exact mul_nonneg h h
  · have := mul_nonneg (a := -x) (b := -x) (by grind) (by grind)
    grind
theorem le_of_sq {x y : Rl} (hy : 0 ≤ y) (h : x * x ≤ y * y) : x ≤ y := by
  apply Classical.byContradiction
  intro c
  have := rmul_pos (show 0 < x - y by grind) (show 0 < x + y by grind)
  grind
theorem eq_of_sq {x y : Rl} (hx : 0 ≤ x) (hy : 0 ≤ y) (h : x * x = y * y) : x = y := by
  have h1 := le_of_sq hy (show x * x ≤ y * y by grind)
  have h2 := le_of_sq hx (show y * y ≤ x * x by grind)
  grind
theorem unit_le {c s : Rl} (h : c * c + s * s = 1) : -1 ≤ c ∧ c ≤ 1 ∧ -1 ≤ s ∧ s ≤ 1 := by
  have h1 := sq_pos c
  have h2 := sq_pos s
  have z := zero_lt_one
  have a := le_of_sq (x := c) (y := 1) (by grind) (by grind)
  have b := le_of_sq (x := -c) (y := 1) (by grind) (by grind)
  have d := le_of_sq (x := s) (y := 1) (by grind) (by grind)
  have e := le_of_sq (x := -s) (y := 1) (by grind) (by grind)
  grind
theorem vers_le {c s : Rl} (h : c * c + s * s = 1) (hc : 0 ≤ c) (hs : 0 ≤ s) : 1 - c ≤ s := by
  have u := unit_le h
  have h1 := mul_nonneg (a := 1 - c) (b := c) (by grind) hc
  have h2 := mul_nonneg (a := 1 - s) (b := s) (by grind) hs
  grind
theorem cast_succ (n : Nat) : ((n + 1 : Nat) : Rl) = (n : Rl) + 1 := by
  show rat ((n + 1 : Nat) : Rat) = rat (n : Rat) + rat 1
  rw [← rat_add]
  congr 1
  simp
theorem cast_nonneg (n : Nat) : (0 : Rl) ≤ (n : Rl) := (rat_le (p := 0)).mpr Rat.natCast_nonneg
theorem q_small (k : Nat) : qs k * ((k : Rl) + 3) ≤ 3 := by
  induction k with
  | zero =>
    rw [q_zero.2]
    have : ((0 : Nat) : Rl) = 0 := rfl
    rw [this]
    grind
  | succ k ih =>
    rw [cast_succ]
    have h := q_succ k
    have p := q_all (k + 1)
    have c := cast_nonneg k
    have h1 := mul_mono (a := 4 * qs (k + 1)) (b := 3 * qs k) (c := (k : Rl) + 1 + 3) (d := (k : Rl) + 1 + 3) h.2.2 (by grind) (by grind) (by have := q_all k; grind)
    have h2 := mul_nonneg (a := qs k) (b := (k : Rl)) (by have := q_all k; grind) c
    grind
theorem q_to : To qs 0 := fun ε e => by
  obtain ⟨N, hN⟩ := arch (3 * rat (1 / ε))
  refine ⟨N, fun n hn => ?_⟩
  have hs := q_small n
  have hp := q_all n
  have hNn : (N : Rl) ≤ (n : Rl) := rat_le.mpr (Rat.natCast_le_natCast.mpr hn)
  have e1 : rat (1 / ε) * rat ε = 1 := by rw [← rat_mul, ← rat_one]; congr 1; rw [Rat.div_mul_cancel (by grind)]
  have e3 : (0 : Rl) < rat ε := rat_pos.mpr e
  have z := cast_nonneg n
  refine ⟨?_, by grind⟩
  apply Classical.byContradiction
  intro c
  have k1 : rat ε ≤ qs n := by grind
  have k2 := mul_mono (a := rat ε) (b := qs n) (c := 3 * rat (1 / ε) + 1) (d := (n : Rl) + 3) k1 (by grind) (by
    have := rat_pos.mpr (show 0 < 1 / ε by rw [Rat.div_def, Rat.one_mul]; exact Rat.inv_pos.mpr e)
    have := zero_lt_one
    grind) (by grind)
  have k3 : rat ε * (3 * rat (1 / ε) + 1) = 3 * (rat (1 / ε) * rat ε) + rat ε := by grind
  rw [k3, e1] at k2
  grind
def pw (c s : Rl) : Nat → Rl × Rl
  | 0 => (1, 0)
  | m + 1 => ((pw c s m).1 * c - (pw c s m).2 * s, (pw c s m).2 * c + (pw c s m).1 * s)
def pz (c s : Rl) : Int → Rl × Rl
  | .ofNat n => pw c s n
  | .negSucc n => ((pw c s (n + 1)).1, - (pw c s (n + 1)).2)
theorem pw_norm {c s : Rl} (h : c * c + s * s = 1) : ∀ m, (pw c s m).1 * (pw c s m).1 + (pw c s m).2 * (pw c s m).2 = 1
  | 0 => by simp only [pw]; grind
  | m + 1 => by
    have := pw_norm h m
    simp only [pw]
    have e : ((pw c s m).1 * c - (pw c s m).2 * s) * ((pw c s m).1 * c - (pw c s m).2 * s) + ((pw c s m).2 * c + (pw c s m).1 * s) * ((pw c s m).2 * c + (pw c s m).1 * s) = ((pw c s m).1 * (pw c s m).1 + (pw c s m).2 * (pw c s m).2) * (c * c + s * s) := by grind
    rw [e, this, h]
    grind
theorem pz_norm {c s : Rl} (h : c * c + s * s = 1) : ∀ m, (pz c s m).1 * (pz c s m).1 + (pz c s m).2 * (pz c s m).2 = 1
  | .ofNat n => pw_norm h n
  | .negSucc n => by
    have := pw_norm h (n + 1)
    simp only [pz]
    grind
theorem pz_succ {c s : Rl} (h : c * c + s * s = 1) : ∀ m : Int, pz c s (m + 1) = ((pz c s m).1 * c - (pz c s m).2 * s, (pz c s m).2 * c + (pz c s m).1 * s)
  | .ofNat n => rfl
  | .negSucc 0 => by
    show ((1 : Rl), (0 : Rl)) = _
    simp only [pz, pw]
    refine Prod.ext ?_ ?_
    · show 1 = _
      grind
    · show 0 = _
      grind
  | .negSucc (n + 1) => by
    have e : Int.negSucc (n + 1) + 1 = Int.negSucc n := by omega
    rw [e]
    simp only [pz]
    have e2 : pw c s (n + 1 + 1) = ((pw c s (n + 1)).1 * c - (pw c s (n + 1)).2 * s, (pw c s (n + 1)).2 * c + (pw c s (n + 1)).1 * s) := rfl
    rw [e2]
    refine Prod.ext ?_ ?_
    · show (pw c s (n + 1)).1 = _
      simp only
      have : ((pw c s (n + 1)).1 * c - (pw c s (n + 1)).2 * s) * c - -((pw c s (n + 1)).2 * c + (pw c s (n + 1)).1 * s) * s = (pw c s (n + 1)).1 * (c * c + s * s) := by grind
      rw [this, h]
      grind
    · show -(pw c s (n + 1)).2 = _
      simp only
      have : -((pw c s (n + 1)).2 * c + (pw c s (n + 1)).1 * s) * c + ((pw c s (n + 1)).1 * c - (pw c s (n + 1)).2 * s) * s = -(pw c s (n + 1)).2 * (c * c + s * s) := by grind
      rw [this, h]
      grind
def cm (p q : Rl × Rl) : Rl × Rl := (p.1 * q.1 - p.2 * q.2, p.2 * q.1 + p.1 * q.2)
theorem pz_nat_add {c s : Rl} (h : c * c + s * s = 1) (m : Int) : ∀ n : Nat, pz c s (m + n) = cm (pz c s m) (pz c s n)
  | 0 => by
    rw [show m + ((0 : Nat) : Int) = m by omega]
    show _ = cm (pz c s m) (1, 0)
    unfold cm
    refine Prod.ext ?_ ?_
    · show _ = (pz c s m).1 * 1 - (pz c s m).2 * 0
      grind
    · show _ = (pz c s m).2 * 1 + (pz c s m).1 * 0
      grind
  | n + 1 => by
    rw [show m + ((n + 1 : Nat) : Int) = (m + n) + 1 by omega, pz_succ h, pz_nat_add h m n, show ((n + 1 : Nat) : Int) = (n : Int) + 1 by omega, pz_succ h]
    unfold cm
    refine Prod.ext ?_ ?_
    · simp only
      grind
    · simp only
      grind
theorem pz_add {c s : Rl} (h : c * c + s * s = 1) (m n : Int) : pz c s (m + n) = cm (pz c s m) (pz c s n) := by
  rcases Int.le_total 0 n with k | k
  · obtain ⟨j, rfl⟩ := Int.eq_ofNat_of_zero_le k
    exact pz_nat_add h m j
  · obtain ⟨j, hj⟩ := Int.eq_ofNat_of_zero_le (a := -n) (by omega)
    have e1 := pz_nat_add h (m + n) j
    have e2 := pz_nat_add h n j
    rw [show m + n + (j : Int) = m by omega] at e1
    rw [show n + (j : Int) = 0 by omega] at e2
    have e3 : pz c s 0 = (1, 0) := rfl
    rw [e3] at e2
    have n1 := pz_norm h (m + n)
    have n2 := pz_norm h n
    have n3 := pz_norm h j
    rw [e1]
    unfold cm at e2 ⊢
    have f1 := congrArg Prod.fst e2
    have f2 := congrArg Prod.snd e2
    simp only at f1 f2
    generalize (pz c s n).1 = a at *
    generalize (pz c s n).2 = b at *
    generalize (pz c s (j : Int)).1 = x at *
    generalize (pz c s (j : Int)).2 = y at *
    refine Prod.ext ?_ ?_
    · simp only
      generalize (pz c s (m + n)).1 = u at *
      generalize (pz c s (m + n)).2 = v at *
      have : (u * x - v * y) * a - (v * x + u * y) * b = u * (a * x - b * y) - v * (b * x + a * y) := by grind
      rw [this, ← f1, ← f2]
      grind
    · simp only
      generalize (pz c s (m + n)).1 = u at *
      generalize (pz c s (m + n)).2 = v at *
      have : (v * x + u * y) * a + (u * x - v * y) * b = v * (a * x - b * y) + u * (b * x + a * y) := by grind
      rw [this, ← f1, ← f2]
      grind
theorem pw_double (k : Nat) : ∀ m : Nat, pw (qc (k + 1)) (qs (k + 1)) (2 * m) = pw (qc k) (qs k) m
  | 0 => rfl
  | m + 1 => by
    have ih := pw_double k m
    have h := q_succ k
    rw [show 2 * (m + 1) = 2 * m + 1 + 1 from rfl]
    simp only [pw]
    rw [ih]
    refine Prod.ext ?_ ?_
    · simp only
      grind
    · simp only
      grind
theorem pz_double (k : Nat) : ∀ m : Int, pz (qc (k + 1)) (qs (k + 1)) (2 * m) = pz (qc k) (qs k) m
  | .ofNat n => pw_double k n
  | .negSucc n => by
    have e : 2 * Int.negSucc n = Int.negSucc (2 * n + 1) := by omega
    rw [e]
    simp only [pz]
    rw [show 2 * n + 1 + 1 = 2 * (n + 1) by omega, pw_double k (n + 1)]
theorem pw_first (k : Nat) : ∀ m : Nat, m ≤ 2 ^ k → 0 ≤ (pw (qc k) (qs k) m).1 ∧ 0 ≤ (pw (qc k) (qs k) m).2 := by
  induction k with
  | zero =>
    intro m hm
    have z := zero_lt_one
    rw [q_zero.1, q_zero.2]
    match m, hm with
    | 0, _ => simp only [pw]; constructor <;> grind
    | 1, _ => simp only [pw]; constructor <;> grind
  | succ k ih =>
    intro m hm
    have h := q_all (k + 1)
    have d := q_succ k
    rcases Nat.mod_two_eq_zero_or_one m with c | c
    · rw [show m = 2 * (m / 2) by omega, pw_double]
      exact ih _ (by omega)
    · have i1 := ih (m / 2) (by omega)
      have i2 := ih (m / 2 + 1) (by omega)
      have e1 : pw (qc (k + 1)) (qs (k + 1)) m = ((pw (qc k) (qs k) (m / 2)).1 * qc (k + 1) - (pw (qc k) (qs k) (m / 2)).2 * qs (k + 1), (pw (qc k) (qs k) (m / 2)).2 * qc (k + 1) + (pw (qc k) (qs k) (m / 2)).1 * qs (k + 1)) := by
        rw [← pw_double k (m / 2)]
        conv => lhs; rw [show m = 2 * (m / 2) + 1 by omega]
        rfl
      have e2 : pw (qc k) (qs k) (m / 2 + 1) = ((pw (qc k) (qs k) (m / 2)).1 * qc k - (pw (qc k) (qs k) (m / 2)).2 * qs k, (pw (qc k) (qs k) (m / 2)).2 * qc k + (pw (qc k) (qs k) (m / 2)).1 * qs k) := rfl
      rw [e2] at i2
      rw [e1]
      simp only at i2 ⊢
      generalize (pw (qc k) (qs k) (m / 2)).1 = x at *
      generalize (pw (qc k) (qs k) (m / 2)).2 = y at *
      have p1 := mul_nonneg i1.2 h.1
      have p2 := mul_nonneg i1.1 (Std.le_of_lt h.2.1)
      have p3 := mul_nonneg i2.1 h.1
      have p4 := mul_nonneg i2.2 (Std.le_of_lt h.2.1)
      refine ⟨?_, by grind⟩
      have : x * qc (k + 1) - y * qs (k + 1) = (x * qc k - y * qs k) * qc (k + 1) + (y * qc k + x * qs k) * qs (k + 1) := by
        have h3 := h.2.2
        rw [← d.1, ← d.2.1]
        have : (x * (qc (k + 1) * qc (k + 1) - qs (k + 1) * qs (k + 1)) - y * (2 * (qc (k + 1) * qs (k + 1)))) * qc (k + 1) + (y * (qc (k + 1) * qc (k + 1) - qs (k + 1) * qs (k + 1)) + x * (2 * (qc (k + 1) * qs (k + 1)))) * qs (k + 1) = (x * qc (k + 1) - y * qs (k + 1)) * (qc (k + 1) * qc (k + 1) + qs (k + 1) * qs (k + 1)) := by grind
        rw [this, h3]
        grind
      rw [this]
      grind
end Go.Re
namespace Go.Re
noncomputable def fk (x : Rl) (k : Nat) : Int := flo (x * 2 ^ k)
noncomputable def zk (x : Rl) (k : Nat) : Rl × Rl := pz (qc k) (qs k) (fk x k)
theorem fk_le (x : Rl) (k : Nat) : ri (fk x k) ≤ x * 2 ^ k ∧ x * 2 ^ k < ri (fk x k) + 1 := flo_le _
theorem zk_norm (x : Rl) (k : Nat) : (zk x k).1 * (zk x k).1 + (zk x k).2 * (zk x k).2 = 1 := pz_norm (q_all k).2.2 _
theorem pz_one {c s : Rl} : pz c s 1 = (c, s) := by
  show pw c s 1 = _
  simp only [pw]
  refine Prod.ext ?_ ?_
  · show 1 * c - 0 * s = c
    grind
  · show 0 * c + 1 * s = s
    grind
theorem turn_small {x y c s : Rl} (h : x * x + y * y = 1) (k : c * c + s * s = 1) (hc : 0 ≤ c) (hs : 0 ≤ s) : (-(2 * s) ≤ (x * c - y * s) - x ∧ (x * c - y * s) - x ≤ 2 * s) ∧ (-(2 * s) ≤ (y * c + x * s) - y ∧ (y * c + x * s) - y ≤ 2 * s) := by
  have u := unit_le h
  have v := vers_le k hc hs
  have w := unit_le k
  have a1 := mul_nonneg (a := 1 - x) (b := 1 - c) (by grind) (by grind)
  have a2 := mul_nonneg (a := 1 + x) (b := 1 - c) (by grind) (by grind)
  have a3 := mul_nonneg (a := 1 - y) (b := 1 - c) (by grind) (by grind)
  have a4 := mul_nonneg (a := 1 + y) (b := 1 - c) (by grind) (by grind)
  have b1 := mul_nonneg (a := 1 - x) (b := s) (by grind) (by grind)
  have b2 := mul_nonneg (a := 1 + x) (b := s) (by grind) (by grind)
  have b3 := mul_nonneg (a := 1 - y) (b := s) (by grind) (by grind)
  have b4 := mul_nonneg (a := 1 + y) (b := s) (by grind) (by grind)
  refine ⟨⟨?_, ?_⟩, ?_, ?_⟩ <;> grind
theorem fk_succ (x : Rl) (k : Nat) : fk x (k + 1) = 2 * fk x k ∨ fk x (k + 1) = 2 * fk x k + 1 := by
  have h := fk_le x k
  have g := fk_le x (k + 1)
  have e : x * 2 ^ (k + 1) = 2 * (x * 2 ^ k) := by grind
  rw [e] at g
  have h1 : ri (2 * fk x k) < ri (fk x (k + 1) + 1) := by rw [ri_mul, ri_add, ri_one, ri_two]; grind
  have h2 : ri (fk x (k + 1)) < ri (2 * fk x k + 2) := by rw [ri_add, ri_mul, ri_two]; grind
  rw [ri_lt] at h1 h2
  omega
theorem zk_step (x : Rl) (k : Nat) : (-(2 * qs (k + 1)) ≤ (zk x (k + 1)).1 - (zk x k).1 ∧ (zk x (k + 1)).1 - (zk x k).1 ≤ 2 * qs (k + 1)) ∧ (-(2 * qs (k + 1)) ≤ (zk x (k + 1)).2 - (zk x k).2 ∧ (zk x (k + 1)).2 - (zk x k).2 ≤ 2 * qs (k + 1)) := by
  have q := q_all (k + 1)
  unfold zk
  rcases fk_succ x k with e | e
  · rw [e, pz_double]
    refine ⟨⟨?_, ?_⟩, ?_, ?_⟩ <;> grind
  · rw [e, pz_add q.2.2, pz_double, pz_one]
    unfold cm
    exact turn_small (pz_norm (q_all k).2.2 _) q.2.2 q.1 (Std.le_of_lt q.2.1)
theorem far (u : Nat → Rl) (h : ∀ k, -(2 * qs (k + 1)) ≤ u (k + 1) - u k ∧ u (k + 1) - u k ≤ 2 * qs (k + 1)) (m : Nat) : ∀ j, -(6 * (qs m - qs (m + j))) ≤ u (m + j) - u m ∧ u (m + j) - u m ≤ 6 * (qs m - qs (m + j))
  | 0 => by
    rw [Nat.add_zero]
    constructor <;> grind
  | j + 1 => by
    have ih := far u h m j
    have st := h (m + j)
    have q := q_succ (m + j)
    rw [show m + (j + 1) = m + j + 1 from rfl]
    constructor <;> grind
theorem cauchy_of (u : Nat → Rl) (h : ∀ k, -(2 * qs (k + 1)) ≤ u (k + 1) - u k ∧ u (k + 1) - u k ≤ 2 * qs (k + 1)) : ∃ L, To u L := complete u fun ε e => by
  obtain ⟨N, hN⟩ := q_to (ε / 12) (by grind)
  refine ⟨N, fun m n hm hn => ?_⟩
  obtain ⟨i, rfl⟩ := Nat.exists_eq_add_of_le hm
  obtain ⟨j, rfl⟩ := Nat.exists_eq_add_of_le hn
  have a := far u h N i
  have b := far u h N j
  have c := hN N (Nat.le_refl N)
  have q1 := q_all (N + i)
  have q2 := q_all (N + j)
  have e12 : rat ε = 12 * rat (ε / 12) := by
    have : (12 : Rl) = rat 12 := rfl
    rw [this, ← rat_mul]
    congr 1
    grind
  grind
noncomputable def Cq (x : Rl) : Rl := Classical.choose (cauchy_of (fun k => (zk x k).1) (fun k => (zk_step x k).1))
noncomputable def Sq (x : Rl) : Rl := Classical.choose (cauchy_of (fun k => (zk x k).2) (fun k => (zk_step x k).2))
theorem C_to (x : Rl) : To (fun k => (zk x k).1) (Cq x) := Classical.choose_spec (cauchy_of (fun k => (zk x k).1) (fun k => (zk_step x k).1))
theorem S_to (x : Rl) : To (fun k => (zk x k).2) (Sq x) := Classical.choose_spec (cauchy_of (fun k => (zk x k).2) (fun k => (zk_step x k).2))
theorem To.sub {u v : Nat → Rl} {L M : Rl} (h : To u L) (k : To v M) : To (fun n => u n - v n) (L - M) := by
  have := h.add k.neg
  have e : L - M = L + -M := by grind
  rw [e]
  intro ε e
  exact (this ε e).mono fun n q => by grind
theorem q_norm (x : Rl) : Cq x * Cq x + Sq x * Sq x = 1 := by
  have h := ((C_to x).mul (C_to x)).add ((S_to x).mul (S_to x))
  refine h.uniq fun ε e => ⟨0, fun n _ => ?_⟩
  have := zk_norm x n
  have := rat_pos.mpr e
  grind
theorem fk_add (x y : Rl) (k : Nat) : fk (x + y) k = fk x k + fk y k ∨ fk (x + y) k = fk x k + fk y k + 1 := by
  have h := fk_le x k
  have g := fk_le y k
  have f := fk_le (x + y) k
  have e : (x + y) * 2 ^ k = x * 2 ^ k + y * 2 ^ k := by grind
  rw [e] at f
  have h1 : ri (fk x k + fk y k) < ri (fk (x + y) k + 1) := by rw [ri_add, ri_add, ri_one]; grind
  have h2 : ri (fk (x + y) k) < ri (fk x k + fk y k + 2) := by rw [ri_add, ri_add, ri_two]; grind
  rw [ri_lt] at h1 h2
  omega
theorem To.near {u v : Nat → Rl} {L M : Rl} (h : To u L) (k : To v M) (d : ∀ n, -(2 * qs n) ≤ u n - v n ∧ u n - v n ≤ 2 * qs n) : L = M := by
  have e := h.sub k
  have z : To (fun n => u n - v n) 0 := fun ε e => (q_to (ε / 4) (by grind)).mono fun n q => by
    have := d n
    have e4 : rat ε = 4 * rat (ε / 4) := by
      have : (4 : Rl) = rat 4 := rfl
      rw [this, ← rat_mul]
      congr 1
      grind
    have q0 := q_all n
    grind
  have := e.uniq z
  grind
theorem zk_add (x y : Rl) (k : Nat) : (-(2 * qs k) ≤ (zk (x + y) k).1 - (cm (zk x k) (zk y k)).1 ∧ (zk (x + y) k).1 - (cm (zk x k) (zk y k)).1 ≤ 2 * qs k) ∧ (-(2 * qs k) ≤ (zk (x + y) k).2 - (cm (zk x k) (zk y k)).2 ∧ (zk (x + y) k).2 - (cm (zk x k) (zk y k)).2 ≤ 2 * qs k) := by
  have q := q_all k
  unfold zk
  rw [← pz_add q.2.2]
  rcases fk_add x y k with e | e
  · rw [e]
    refine ⟨⟨?_, ?_⟩, ?_, ?_⟩ <;> grind
  · rw [e, pz_add q.2.2 _ 1, pz_one]
    have t := turn_small (pz_norm q.2.2 (fk x k + fk y k)) q.2.2 q.1 (Std.le_of_lt q.2.1)
    exact t
theorem C_add (x y : Rl) : Cq (x + y) = Cq x * Cq y - Sq x * Sq y :=
  (C_to (x + y)).near (((C_to x).mul (C_to y)).sub ((S_to x).mul (S_to y))) fun n => (zk_add x y n).1
theorem S_add (x y : Rl) : Sq (x + y) = Sq x * Cq y + Cq x * Sq y :=
  (S_to (x + y)).near (((S_to x).mul (C_to y)).add ((C_to x).mul (S_to y))) fun n => (zk_add x y n).2
theorem pz_at (j : Nat) : ∀ i, pz (qc (j + i)) (qs (j + i)) (2 ^ i) = (qc j, qs j)
  | 0 => pz_one
  | i + 1 => by
    have := pz_at j i
    rw [show (2 : Int) ^ (i + 1) = 2 * 2 ^ i by rw [Int.pow_succ]; omega, show j + (i + 1) = j + i + 1 from rfl, pz_double]
    exact this
theorem at_part {x : Rl} {j : Nat} (h : x * 2 ^ j = 1) : Cq x = qc j ∧ Sq x = qs j := by
  have z : ∀ k, j ≤ k → zk x k = (qc j, qs j) := fun k hk => by
    obtain ⟨i, rfl⟩ := Nat.exists_eq_add_of_le hk
    unfold zk
    have : fk x (j + i) = 2 ^ i := by
      have e : x * 2 ^ (j + i) = 2 ^ i := by
        have : x * 2 ^ (j + i) = x * 2 ^ j * 2 ^ i := by grind
        rw [this, h]
        grind
      have o := zero_lt_one
      refine flo_eq ?_ ?_
      · rw [ri_pow, e]
        exact rle_refl _
      · rw [ri_pow, e]
        grind
    rw [this, pz_at]
  constructor
  · refine (C_to x).uniq fun ε e => ⟨j, fun n hn => ?_⟩
    have zz := z n hn
    simp only [zz]
    have := rat_pos.mpr e
    grind
  · refine (S_to x).uniq fun ε e => ⟨j, fun n hn => ?_⟩
    have zz := z n hn
    simp only [zz]
    have := rat_pos.mpr e
    grind
theorem at_zero : Cq 0 = 1 ∧ Sq 0 = 0 := by
  have z : ∀ k, zk 0 k = (1, 0) := fun k => by
    unfold zk
    have : fk 0 k = 0 := by
      have o := zero_lt_one
      refine flo_eq ?_ ?_
      · rw [ri_zero]; grind
      · rw [ri_zero]; grind
    rw [this]
    rfl
  constructor
  · refine (C_to 0).uniq fun ε e => ⟨0, fun n hn => ?_⟩
    have zz := z n
    simp only [zz]
    have := rat_pos.mpr e
    grind
  · refine (S_to 0).uniq fun ε e => ⟨0, fun n hn => ?_⟩
    have zz := z n
    simp only [zz]
    have := rat_pos.mpr e
    grind
theorem at_one : Cq 1 = 0 ∧ Sq 1 = 1 := at_part (j := 0) (by grind)
theorem C_neg (x : Rl) : Cq (-x) = Cq x := by
  have h := C_add x (-x)
  have k := S_add x (-x)
  have z := at_zero
  rw [show x + -x = 0 by grind, z.1] at h
  rw [show x + -x = 0 by grind, z.2] at k
  have n := q_norm x
  have : Cq (-x) * (Cq x * Cq x + Sq x * Sq x) = (Cq x * Cq (-x) - Sq x * Sq (-x)) * Cq x + (Sq x * Cq (-x) + Cq x * Sq (-x)) * Sq x := by grind
  rw [n, ← h, ← k] at this
  grind
theorem S_neg (x : Rl) : Sq (-x) = - Sq x := by
  have h := C_add x (-x)
  have k := S_add x (-x)
  have z := at_zero
  rw [show x + -x = 0 by grind, z.1] at h
  rw [show x + -x = 0 by grind, z.2] at k
  have n := q_norm x
  have : Sq (-x) * (Cq x * Cq x + Sq x * Sq x) = (Sq x * Cq (-x) + Cq x * Sq (-x)) * Cq x - (Cq x * Cq (-x) - Sq x * Sq (-x)) * Sq x := by grind
  rw [n, ← h, ← k] at this
  grind
theorem first_nonneg {x : Rl} (h0 : 0 ≤ x) (h1 : x ≤ 1) : 0 ≤ Cq x ∧ 0 ≤ Sq x := by
  have z : ∀ k, 0 ≤ (zk x k).1 ∧ 0 ≤ (zk x k).2 := fun k => by
    have f := fk_le x k
    have p2 := two_pow k
    have a := mul_nonneg (a := x) (b := (2 : Rl) ^ k) h0 (by have := zero_lt_one; grind)
    have b := mul_nonneg (a := 1 - x) (b := (2 : Rl) ^ k) (by grind) (by have := zero_lt_one; grind)
    have g0 : ri (-1) < ri (fk x k) := by rw [ri_neg, ri_one]; grind
    have g1 : ri (fk x k) ≤ ri (2 ^ k) := by rw [ri_pow]; grind
    rw [ri_lt] at g0
    rw [ri_le] at g1
    obtain ⟨m, hm⟩ := Int.eq_ofNat_of_zero_le (a := fk x k) (by omega)
    unfold zk
    rw [hm] at g1 ⊢
    exact pw_first k m (by
      have : ((2 ^ k : Nat) : Int) = 2 ^ k := by simp
      omega)
  exact ⟨(C_to x).ge ⟨0, fun n _ => (z n).1⟩, (S_to x).ge ⟨0, fun n _ => (z n).2⟩⟩
theorem S_diff (a d : Rl) : Sq (a + d) - Sq (a - d) = 2 * (Cq a * Sq d) := by
  have h := S_add a d
  have k := S_add a (-d)
  rw [C_neg, S_neg] at k
  rw [show a - d = a + -d by grind, h, k]
  grind
theorem S_up {x y : Rl} (h0 : 0 ≤ y) (h : y ≤ x) (h1 : x ≤ 1) : Sq y ≤ Sq x := by
  have ha := hf_two (x + y)
  have hd := hf_two (x - y)
  have d := S_diff (hf (x + y)) (hf (x - y))
  rw [show hf (x + y) + hf (x - y) = x by grind, show hf (x + y) - hf (x - y) = y by grind] at d
  have p1 := first_nonneg (x := hf (x + y)) (by grind) (by grind)
  have p2 := first_nonneg (x := hf (x - y)) (by grind) (by grind)
  have := mul_nonneg p1.1 p2.2
  grind
theorem exists_part2 {x : Rl} (h : 0 < x) : ∃ (t : Rl) (j : Nat), t * 2 ^ j = 1 ∧ 0 < t ∧ t ≤ x := by
  obtain ⟨r, r0, hr⟩ := exists_inv h
  obtain ⟨j, hj⟩ := arch r
  have p := two_pow j
  have z := zero_lt_one
  obtain ⟨t, t0, ht⟩ := exists_inv (a := (2 : Rl) ^ j) (by grind)
  refine ⟨t, j, by grind, t0, ?_⟩
  apply Classical.byContradiction
  intro c
  have k1 := rmul_pos (show 0 < t - x by grind) r0
  have k2 := rmul_pos (show 0 < 2 ^ j - r by grind) t0
  grind
theorem S_pos {x : Rl} (h0 : 0 < x) (h1 : x ≤ 1) : 0 < Sq x := by
  obtain ⟨t, j, ht, t0, tx⟩ := exists_part2 h0
  have u := S_up (Std.le_of_lt t0) tx h1
  rw [(at_part ht).2] at u
  have := (q_all j).2.1
  grind
theorem S_one_sub (x : Rl) : Sq (1 - x) = Cq x ∧ Cq (1 - x) = Sq x := by
  have h := S_add 1 (-x)
  have k := C_add 1 (-x)
  rw [C_neg, S_neg, at_one.1, at_one.2] at h k
  rw [show 1 - x = 1 + -x by grind, h, k]
  constructor <;> grind
theorem S_one_add (x : Rl) : Sq (1 + x) = Cq x ∧ Cq (1 + x) = - Sq x := by
  have h := S_add 1 x
  have k := C_add 1 x
  rw [at_one.1, at_one.2] at h k
  rw [h, k]
  constructor <;> grind
theorem C_pos {x : Rl} (h0 : 0 ≤ x) (h1 : x < 1) : 0 < Cq x := by
  have := S_pos (x := 1 - x) (by grind) (by grind)
  rw [(S_one_sub x).1] at this
  exact this
theorem S_pos2 {x : Rl} (h0 : 0 < x) (h2 : x < 2) : 0 < Sq x := by
  by_cases c : x ≤ 1
  · exact S_pos h0 c
  · have := C_pos (x := x - 1) (by grind) (by grind)
    have e := (S_one_add (x - 1)).1
    rw [show 1 + (x - 1) = x by grind] at e
    grind
theorem S_onto {v : Rl} (h0 : 0 ≤ v) (h1 : v ≤ 1) : ∃ x, 0 ≤ x ∧ x ≤ 1 ∧ Sq x = v := by
  have z := zero_lt_one
  refine between Sq (Std.le_of_lt z) (by rw [at_zero.2]; exact h0) (by rw [at_one.2]; exact h1) fun ε e => ?_
  obtain ⟨j, hj⟩ := (q_to (ε / 2) (by grind)).any
  have p := two_pow j
  obtain ⟨t, t0, ht⟩ := exists_inv (a := (2 : Rl) ^ j) (by grind)
  obtain ⟨δ, d, hd⟩ := small t0
  refine ⟨δ, d, fun x y x0 xy y1 hxy => ?_⟩
  have e2 : rat ε = 2 * rat (ε / 2) := by
    have : (2 : Rl) = rat 2 := rfl
    rw [this, ← rat_mul]
    congr 1
    grind
  have up := S_up x0 xy y1
  have ha := hf_two (y + x)
  have hh := hf_two (y - x)
  have df := S_diff (hf (y + x)) (hf (y - x))
  rw [show hf (y + x) + hf (y - x) = y by grind, show hf (y + x) - hf (y - x) = x by grind] at df
  have t1 : t ≤ 1 := by
    apply Classical.byContradiction
    intro c
    have := rmul_pos (show 0 < t - 1 by grind) (show (0 : Rl) < 2 ^ j by grind)
    grind
  have ud := S_up (y := hf (y - x)) (x := t) (by grind) (by grind) t1
  rw [(at_part (x := t) (j := j) (by grind)).2] at ud
  have n := unit_le (q_norm (hf (y + x)))
  have p1 := first_nonneg (x := hf (y - x)) (by grind) (by grind)
  have := mul_nonneg (a := 1 - Cq (hf (y + x))) (b := Sq (hf (y - x))) (by grind) p1.2
  have := rat_pos.mpr e
  constructor <;> grind
end Go.Re
namespace Go.Re
theorem ri_lit (n : Nat) : ri (n : Int) = OfNat.ofNat n := rfl
noncomputable def kap : Rl := rat (1 / 5400000)
theorem kap_one : 5400000 * kap = 1 := by
  have : (5400000 : Rl) = rat ((5400000 : Nat) : Rat) := rfl
  unfold kap
  rw [this, ← rat_mul, ← rat_one]
  congr 1
  decide +kernel
theorem kap_pos : 0 < kap := rat_pos.mpr (by decide +kernel)
noncomputable def Sn (x : Rl) : Rl := Sq (x * kap)
noncomputable def Cn (x : Rl) : Rl := Cq (x * kap)
theorem Sn_add (x y : Rl) : Sn (x + y) = Sn x * Cn y + Cn x * Sn y := by
  unfold Sn Cn
  rw [show (x + y) * kap = x * kap + y * kap by grind]
  exact S_add _ _
theorem Cn_add (x y : Rl) : Cn (x + y) = Cn x * Cn y - Sn x * Sn y := by
  unfold Sn Cn
  rw [show (x + y) * kap = x * kap + y * kap by grind]
  exact C_add _ _
theorem Sn_neg (x : Rl) : Sn (-x) = - Sn x := by
  unfold Sn
  rw [show (-x) * kap = -(x * kap) by grind]
  exact S_neg _
theorem Cn_neg (x : Rl) : Cn (-x) = Cn x := by
  unfold Cn
  rw [show (-x) * kap = -(x * kap) by grind]
  exact C_neg _
theorem Sn_sub (x y : Rl) : Sn (x - y) = Sn x * Cn y - Cn x * Sn y := by
  have := Sn_add x (-y)
  rw [Sn_neg, Cn_neg] at this
  rw [show x - y = x + -y by grind, this]
  grind
theorem Cn_sub (x y : Rl) : Cn (x - y) = Cn x * Cn y + Sn x * Sn y := by
  have := Cn_add x (-y)
  rw [Sn_neg, Cn_neg] at this
  rw [show x - y = x + -y by grind, this]
  grind
theorem nrm (x : Rl) : Cn x * Cn x + Sn x * Sn x = 1 := q_norm _
theorem Cn_zero : Cn 0 = 1 := by
  unfold Cn
  rw [show 0 * kap = 0 by grind]
  exact at_zero.1
theorem Sn_zero : Sn 0 = 0 := by
  unfold Sn
  rw [show 0 * kap = 0 by grind]
  exact at_zero.2
theorem Cn_Q : Cn 5400000 = 0 := by
  unfold Cn
  rw [kap_one]
  exact at_one.1
theorem Sn_Q : Sn 5400000 = 1 := by
  unfold Sn
  rw [kap_one]
  exact at_one.2
theorem Cn_H : Cn 10800000 = -1 := by
  rw [show (10800000 : Rl) = 5400000 + 5400000 by grind, Cn_add, Cn_Q, Sn_Q]
  grind
theorem Sn_H : Sn 10800000 = 0 := by
  rw [show (10800000 : Rl) = 5400000 + 5400000 by grind, Sn_add, Cn_Q, Sn_Q]
  grind
theorem Cn_T : Cn 21600000 = 1 := by
  rw [show (21600000 : Rl) = 10800000 + 10800000 by grind, Cn_add, Cn_H, Sn_H]
  grind
theorem Sn_T : Sn 21600000 = 0 := by
  rw [show (21600000 : Rl) = 10800000 + 10800000 by grind, Sn_add, Cn_H, Sn_H]
  grind
theorem Cn_addH (x : Rl) : Cn (x + 10800000) = - Cn x := by rw [Cn_add, Cn_H, Sn_H]; grind
theorem Sn_addH (x : Rl) : Sn (x + 10800000) = - Sn x := by rw [Sn_add, Cn_H, Sn_H]; grind
theorem Cn_addQ (x : Rl) : Cn (x + 5400000) = - Sn x := by rw [Cn_add, Cn_Q, Sn_Q]; grind
theorem Sn_addQ (x : Rl) : Sn (x + 5400000) = Cn x := by rw [Sn_add, Cn_Q, Sn_Q]; grind
theorem Cn_Qsub (x : Rl) : Cn (5400000 - x) = Sn x := by rw [Cn_sub, Cn_Q, Sn_Q]; grind
theorem Sn_Qsub (x : Rl) : Sn (5400000 - x) = Cn x := by rw [Sn_sub, Cn_Q, Sn_Q]; grind
theorem Sn_Hsub (x : Rl) : Sn (10800000 - x) = Sn x := by rw [Sn_sub, Cn_H, Sn_H]; grind
theorem Cn_Tsub (x : Rl) : Cn (21600000 - x) = Cn x := by rw [Cn_sub, Cn_T, Sn_T]; grind
theorem Cn_addT (x : Rl) : Cn (x + 21600000) = Cn x := by rw [Cn_add, Cn_T, Sn_T]; grind
theorem Sn_addT (x : Rl) : Sn (x + 21600000) = Sn x := by rw [Sn_add, Cn_T, Sn_T]; grind
theorem Sn_pos {x : Rl} (h0 : 0 < x) (h1 : x < 10800000) : 0 < Sn x := by
  have k := kap_one
  have p := rmul_pos h0 kap_pos
  have q := rmul_pos (show 0 < 10800000 - x by grind) kap_pos
  exact S_pos2 p (by grind)
theorem Sn_nonneg {x : Rl} (h0 : 0 ≤ x) (h1 : x ≤ 10800000) : 0 ≤ Sn x := by
  by_cases a : x = 0
  · subst a
    rw [Sn_zero]
    exact rle_refl _
  · by_cases b : x = 10800000
    · subst b
      rw [Sn_H]
      exact rle_refl _
    · exact Std.le_of_lt (Sn_pos (by grind) (by grind))
theorem Cn_pos {x : Rl} (h0 : -5400000 < x) (h1 : x < 5400000) : 0 < Cn x := by
  have := Sn_pos (x := x + 5400000) (by grind) (by grind)
  rw [Sn_addQ] at this
  exact this
theorem Cn_nonneg {x : Rl} (h0 : -5400000 ≤ x) (h1 : x ≤ 5400000) : 0 ≤ Cn x := by
  have := Sn_nonneg (x := x + 5400000) (by grind) (by grind)
  rw [Sn_addQ] at this
  exact this
theorem Cn_diff (x y : Rl) : Cn x - Cn y = 2 * (Sn (hf (x + y)) * Sn (hf (y - x))) := by
  have a := hf_two (x + y)
  have b := hf_two (y - x)
  have h := Cn_sub (hf (x + y)) (hf (y - x))
  have k := Cn_add (hf (x + y)) (hf (y - x))
  rw [show hf (x + y) - hf (y - x) = x by grind] at h
  rw [show hf (x + y) + hf (y - x) = y by grind] at k
  grind
theorem Cn_lt {x y : Rl} (h0 : 0 ≤ x) (h : x < y) (h1 : y ≤ 10800000) : Cn y < Cn x := by
  have a := hf_two (x + y)
  have b := hf_two (y - x)
  have d := Cn_diff x y
  have := rmul_pos (Sn_pos (x := hf (x + y)) (by grind) (by grind)) (Sn_pos (x := hf (y - x)) (by grind) (by grind))
  grind
theorem Cn_le {x y : Rl} (h0 : 0 ≤ x) (h : x ≤ y) (h1 : y ≤ 10800000) : Cn y ≤ Cn x := by
  by_cases e : x = y
  · rw [e]
    exact rle_refl _
  · exact Std.le_of_lt (Cn_lt h0 (by grind) h1)
theorem le_of_Cn {x y : Rl} (h0 : 0 ≤ y) (h1 : x ≤ 10800000) (h : Cn y ≤ Cn x) : x ≤ y := by
  apply Classical.byContradiction
  intro c
  have := Cn_lt h0 (show y < x by grind) h1
  grind
theorem Cn_inj {x y : Rl} (h0 : 0 ≤ x) (h1 : x ≤ 10800000) (k0 : 0 ≤ y) (k1 : y ≤ 10800000) (h : Cn x = Cn y) : x = y := by
  have a := le_of_Cn (x := x) (y := y) k0 h1 (by rw [h]; exact rle_refl _)
  have b := le_of_Cn (x := y) (y := x) h0 k1 (by rw [h]; exact rle_refl _)
  grind
theorem Sn_lt {x y : Rl} (h0 : -5400000 ≤ x) (h : x < y) (h1 : y ≤ 5400000) : Sn x < Sn y := by
  have := Cn_lt (x := 5400000 - y) (y := 5400000 - x) (by grind) (by grind) (by grind)
  rw [Cn_Qsub, Cn_Qsub] at this
  exact this
theorem Sn_le {x y : Rl} (h0 : -5400000 ≤ x) (h : x ≤ y) (h1 : y ≤ 5400000) : Sn x ≤ Sn y := by
  by_cases e : x = y
  · rw [e]
    exact rle_refl _
  · exact Std.le_of_lt (Sn_lt h0 (by grind) h1)
theorem Cn_range (x : Rl) : -1 ≤ Cn x ∧ Cn x ≤ 1 ∧ -1 ≤ Sn x ∧ Sn x ≤ 1 := unit_le (nrm x)
theorem acos_ex {c : Rl} (h0 : -1 ≤ c) (h1 : c ≤ 1) : ∃ x, 0 ≤ x ∧ x ≤ 10800000 ∧ Cn x = c := by
  have k := kap_one
  by_cases s : 0 ≤ c
  · obtain ⟨x, x0, x1, hx⟩ := S_onto s h1
    refine ⟨5400000 - 5400000 * x, by grind, by grind, ?_⟩
    rw [Cn_Qsub]
    unfold Sn
    rw [show 5400000 * x * kap = x * (5400000 * kap) by grind, k, show x * 1 = x by grind]
    exact hx
  · obtain ⟨x, x0, x1, hx⟩ := S_onto (v := -c) (by grind) (by grind)
    refine ⟨5400000 * x + 5400000, by grind, by grind, ?_⟩
    rw [Cn_addQ]
    unfold Sn
    rw [show 5400000 * x * kap = x * (5400000 * kap) by grind, k, show x * 1 = x by grind, hx]
    grind
theorem arg_ex {c s : Rl} (h : c * c + s * s = 1) : ∃ x, 0 ≤ x ∧ x < 21600000 ∧ Cn x = c ∧ Sn x = s := by
  have u := unit_le h
  by_cases k : 0 ≤ s
  · obtain ⟨x, x0, x1, hx⟩ := acos_ex u.1 u.2.1
    refine ⟨x, x0, by grind, hx, ?_⟩
    have n := nrm x
    rw [hx] at n
    exact eq_of_sq (Sn_nonneg x0 x1) k (by grind)
  · obtain ⟨x, x0, x1, hx⟩ := acos_ex (c := -c) (by grind) (by grind)
    have n := nrm x
    rw [hx] at n
    have e := eq_of_sq (Sn_nonneg x0 x1) (y := -s) (by grind) (by grind)
    have : x ≠ 10800000 := fun q => by
      rw [q, Sn_H] at e
      grind
    refine ⟨x + 10800000, by grind, by grind, ?_, ?_⟩
    · rw [Cn_addH, hx]
      grind
    · rw [Sn_addH, e]
      grind
theorem Cn_turns (x : Rl) (k : Int) : Cn (x + ri (21600000 * k)) = Cn x ∧ Sn (x + ri (21600000 * k)) = Sn x := by
  have key : ∀ n : Nat, ∀ x : Rl, Cn (x + ri (21600000 * (n : Int))) = Cn x ∧ Sn (x + ri (21600000 * (n : Int))) = Sn x := by
    intro n
    induction n with
    | zero =>
      intro x
      rw [show 21600000 * ((0 : Nat) : Int) = 0 by omega, ri_zero, show x + 0 = x by grind]
      exact ⟨rfl, rfl⟩
    | succ n ih =>
      intro x
      have e : x + ri (21600000 * ((n + 1 : Nat) : Int)) = (x + ri (21600000 * (n : Int))) + 21600000 := by
        rw [show 21600000 * ((n + 1 : Nat) : Int) = 21600000 * (n : Int) + ((21600000 : Nat) : Int) by omega, ri_add, ri_lit]
        grind
      rw [e, Cn_addT, Sn_addT]
      exact ih x
  rcases Int.le_total 0 k with h | h
  · obtain ⟨n, rfl⟩ := Int.eq_ofNat_of_zero_le h
    exact key n x
  · obtain ⟨n, hn⟩ := Int.eq_ofNat_of_zero_le (a := -k) (by omega)
    have := key n (x + ri (21600000 * k))
    have e : x + ri (21600000 * k) + ri (21600000 * (n : Int)) = x := by
      rw [show 21600000 * (n : Int) = -(21600000 * k) by omega, ri_neg]
      grind
    rw [e] at this
    exact ⟨this.1.symm, this.2.symm⟩
theorem same_dir {x y : Rl} (h : Cn x = Cn y) (k : Sn x = Sn y) : ∃ n : Int, x = y + ri (21600000 * n) := by
  have hd : Cn (x - y) = 1 := by rw [Cn_sub, h, k]; exact nrm y
  obtain ⟨i, i0, hi⟩ := exists_inv (a := (21600000 : Rl)) (by have := zero_lt_one; grind)
  have f := flo_le ((x - y) * i)
  refine ⟨flo ((x - y) * i), ?_⟩
  generalize hm : flo ((x - y) * i) = m at *
  have e1 : ri (21600000 * m) = 21600000 * ri m := by rw [ri_mul]; rfl
  have e2 : 21600000 * ((x - y) * i) = x - y := by
    have : 21600000 * ((x - y) * i) = (x - y) * (21600000 * i) := by grind
    rw [this, hi]
    grind
  have t := (Cn_turns (x - y - ri (21600000 * m)) m).1
  rw [show x - y - ri (21600000 * m) + ri (21600000 * m) = x - y by grind, hd] at t
  generalize hr : x - y - ri (21600000 * m) = r at *
  have r0 : 0 ≤ r := by grind
  have r1 : r < 21600000 := by grind
  by_cases z : r = 0
  · grind
  · have hh := hf_two r
    have p := Sn_pos (x := hf r) (by grind) (by grind)
    have q := Cn_add (hf r) (hf r)
    rw [hh, ← t] at q
    have n := nrm (hf r)
    have := rmul_pos p p
    grind
theorem same_cos {x y : Rl} (h : Cn x = Cn y) : ∃ n : Int, x = y + ri (21600000 * n) ∨ x = -y + ri (21600000 * n) := by
  have a := nrm x
  have b := nrm y
  have c : (Sn x - Sn y) * (Sn x + Sn y) = 0 := by grind
  by_cases d : Sn x = Sn y
  · obtain ⟨n, hn⟩ := same_dir h d
    exact ⟨n, .inl hn⟩
  · have e : Sn x = - Sn y := by
      by_cases f : 0 < Sn x - Sn y
      · obtain ⟨i, i0, hi⟩ := exists_inv f
        have : Sn x + Sn y = i * ((Sn x - Sn y) * (Sn x + Sn y)) := by
          have : i * ((Sn x - Sn y) * (Sn x + Sn y)) = ((Sn x - Sn y) * i) * (Sn x + Sn y) := by grind
          rw [this, hi]
          grind
        rw [c] at this
        grind
      · obtain ⟨i, i0, hi⟩ := exists_inv (a := -(Sn x - Sn y)) (by grind)
        have : Sn x + Sn y = -(i * ((Sn x - Sn y) * (Sn x + Sn y))) := by
          have : -(i * ((Sn x - Sn y) * (Sn x + Sn y))) = (-(Sn x - Sn y) * i) * (Sn x + Sn y) := by grind
          rw [this, hi]
          grind
        rw [c] at this
        grind
    obtain ⟨n, hn⟩ := same_dir (x := x) (y := -y) (by rw [Cn_neg]; exact h) (by rw [Sn_neg]; exact e)
    exact ⟨n, .inr hn⟩
end Go.Re
